import PyProof.Rows.All
import Wide.All
import OpenK.AllK
import Wide.FinOn
import HandS.ForMost
import HandS.ForExc
import HandS.TupAny
import KE.KDictPairs
import HandS.Lambda
import HandS.CallSlots
import HandS.IsInst
import HandS.Flow
import HandS.Deep
import HandS.Wide
import HandS.WideBits
import HandS.Conv
import HandS.Sort
import HandS.FStr
import HandS.More
import HandS.Iter
import HandS.Zip
import HandS.Comp
import HandS.DictComp
import HandS.NoneIn
import HandS.ExcInit
import HandS.ExcField
import HandS.HotCalls
import KE.KLam
import PyProof.NeKinds
import PyProof.MinMaxWalk
import KE.SortData
import PyProof.SumAny
import PyProof.ListOps
import HandS.Set
import HandS.SetFor
import HandS.SetKeys
import HandS.TupSets
import PyProof.DictCompW
import HandS.HeadHook4
import HandS.HeadWalk
import HandS.Head2
import HandS.NestedK
import PySem.Challenge.RW_thirdgames_k80_whole_seasons_counted
set_option Elab.async false
set_option linter.all false
set_option maxRecDepth 100000
set_option maxHeartbeats 2000000
set_option autoImplicit false
/-! Tuples whose object is known to have no dict: made, joined, cut; dict(t) of a tuple of pairs. -/
namespace ML
open PySem PySem.Spec PyProof.Rows L2
/-- a tuple, its object without a dict -/
def PTu (K : PySem.W.Frag) (H : Hp) (a : Addr) (xs : List V) : Prop :=
  (∃ o, H a = some (.frz o (.tup xs)) ∧ o.dict = none) ∨
    ∃ (o : Obj) (its : Array Value) (n : Nat), K.lookup a = some o ∧ o.cls = .type "tuple" ∧ o.dict = none ∧ o.data = .seq its n ∧ its.size ≤ sizeLine ∧ Vals xs its.toList
theorem PTu.sq {K : PySem.W.Frag} {H : Hp} {a : Addr} {xs : List V} (h : PTu K H a xs) : SqT K H a xs := by
  rcases h with ⟨o, h, _⟩ | ⟨o, its, n, h1, h2, _, h3, h4, h5⟩
  · exact .inl (.inr ⟨o, h⟩)
  · exact .inr ⟨o, its, n, h1, h2, h3, h4, h5⟩
theorem PTu.mono {K : PySem.W.Frag} {H H' : Hp} {a : Addr} {xs : List V} (h : ∀ a o, H a = some o → H' a = some o) (r : PTu K H a xs) : PTu K H' a xs := by
  rcases r with ⟨o, e, d⟩ | r
  · exact .inl ⟨o, h _ _ e, d⟩
  · exact .inr r
theorem PTu.new {K : PySem.W.Frag} {H : Hp} {a : Addr} {o : Obj} {xs : List V} (d : o.dict = none) : PTu K (upd H a (.frz o (.tup xs))) a xs := .inl ⟨o, upd_same, d⟩
section
variable {X : Cx} {pins : List (Addr × Obj)} {σ : L2.St} {H : Hp} {s : Shared}
theorem laidT {its : List Value} {xs : List V} {Q : VK} {t' : Nat} (I : Inv X pins σ H s) (hz : xs.length ≤ sizeLine) (r : Vals xs its) (q : ∀ p o, H p = none → o.dict = none → Q (.ref p) (upd H p (.frz o (.tup xs)))) :
    EP X pins σ Q (.ref s.heap.objs.size) { s with heap := s.heap.push { cls := .type "tuple", data := .seq its.toArray }, toks := t' } := by
  refine ⟨.ref s.heap.objs.size, _, I.laid (t' := t') (o := .frz { cls := .type "tuple", data := .seq its.toArray } (.tup xs)) (fun b ob q => Heap.get?_push_of_some _ q) (Nat.le_refl _) ?_, rfl, q _ _ (I.hok.fresh (Nat.le_refl _)) rfl⟩
  exact ⟨Heap.get?_push_size _ rfl, hz, its, r, IsTup.new _ _⟩
theorem Inv.pt {a : Addr} {xs : List V} (I : Inv X pins σ H s) (h : PTu X.K H a xs) : ∃ (o : Obj) (its : List Value) (n : Nat), Vals xs its ∧ s.heap.get? a = some o ∧ o.cls = .type "tuple" ∧ o.dict = none ∧ o.data = .seq its.toArray n ∧ xs.length ≤ sizeLine := by
  rcases h with ⟨o, h, d⟩ | ⟨o, its, n, h1, h2, h3, h4, h5, h6⟩
  · obtain ⟨e, hz, its, r, ob, e2, hc, n, hd⟩ := I.hok a _ h
    rw [e] at e2; cases e2
    exact ⟨o, its, n, r, e, hc, d, hd, hz⟩
  · refine ⟨o, its.toList, n, h6, I.kIn a o h1, h2, h3, by simpa using h4, ?_⟩
    have e := h6.length
    simp only [Array.length_toList] at e
    omega
end
section
variable {X : Cx} {pos : Pos} {es : List Expr} {t : TA}
theorem pe_tupF {x1} (h : PA X es t) : PE X (.Tuple es x1 pos) (fun σ H Q => t σ H fun xs H1 => xs.length ≤ sizeLine ∧ ∀ p o, H1 p = none → o.dict = none → Q (.ref p) (upd H1 p (.frz o (.tup xs)))) := by
  refine ⟨fun pins s σ H Q I hq => ?_⟩
  exact wpAny_Tuple_spliced (thn (h.run pos pins s σ H _ I hq) fun us s1 ⟨xs, H1, I1, r, z, q⟩ => ⟨by rw [← r.length]; exact z, laidT (t' := s1.toks) I1 z r q⟩)
/-- tuple(list), tuple(tuple) -/
theorem call_tupleF : CallR X (.type "tuple") (fun xs H Q => ∃ p ys, xs = [.ref p] ∧ ((SqL X.K H p ys ∧ ∀ l o, H l = none → o.dict = none → Q (.ref l) (upd H l (.frz o (.tup ys)))) ∨ (SqT X.K H p ys ∧ Q (.ref p) H))) := by
  intro pins s σ H xs us Q I r h
  obtain ⟨p, ys, rfl, h⟩ := h
  obtain ⟨u, rfl, rx⟩ := vals1 r
  cases rx
  rcases h with ⟨hq, q⟩ | ⟨hq, q⟩
  · obtain ⟨its, r', pl, hz⟩ := I.list hq
    have hlen := r'.length
    refine call_tuple_list pl.isList (fun h' kp => ?_) (by simp only [List.size_toArray] <;> omega)
    have I1 : Inv X pins σ H { s with heap := h' } := I.kept (t' := s.toks) kp
    exact laidT (t' := s.toks) I1 hz r' q
  · obtain ⟨its, r', pl, hz⟩ := I.tuple hq
    exact call_tuple_same pl ⟨.ref p, H, I, rfl, q⟩
def rCatF (K : PySem.W.Frag) : R2 := fun x y H Q => ∃ a b xs ys, x = .ref a ∧ y = .ref b ∧ SqT K H a xs ∧ SqT K H b ys ∧ xs.length + ys.length ≤ sizeLine ∧
  (xs = [] → Q (.ref b) H) ∧ (xs ≠ [] → ys = [] → Q (.ref a) H) ∧ (xs ≠ [] → ys ≠ [] → ∀ p o, H p = none → o.dict = none → Q (.ref p) (upd H p (.frz o (.tup (xs ++ ys)))))
theorem op_catF : OpR X (binaryOp .Add) (rCatF X.K) := by
  intro pins s σ H x y v u Q I rx ry h
  obtain ⟨a, b, xs, ys, rfl, rfl, ha, hb, hz, q0, q1, q2⟩ := h
  cases rx
  cases ry
  obtain ⟨its, r1, p1, _⟩ := I.tuple ha
  obtain ⟨its2, r2, p2, _⟩ := I.tuple hb
  by_cases hx : xs = []
  · subst hx
    cases r1
    exact cat_tup0 p1 p2 ⟨.ref b, H, I, rfl, q0 rfl⟩
  · refine HT.cat_tup p1 p2 (fun z => hx (r1.nil_iff.mp z)) (fun z => ⟨.ref a, H, I, rfl, q1 hx (r2.nil_iff.mp z)⟩) (fun z => ?_) (by rw [← r1.length, ← r2.length]; exact hz)
    exact laidT (t' := s.toks) I (by rw [List.length_append]; exact hz) (r1.append r2) (q2 hx (fun w => z (r2.nil_iff.mpr w)))
def rSlF (K : PySem.W.Frag) : V → Option Int → Option Int → Hp → VK → Prop := fun x lo hi H Q => ∃ a xs, x = .ref a ∧ SqT K H a xs ∧
  (HT.sIx xs.length 0 lo = 0 ∧ HT.sIx xs.length xs.length hi = xs.length → Q (.ref a) H) ∧ (¬ (HT.sIx xs.length 0 lo = 0 ∧ HT.sIx xs.length xs.length hi = xs.length) → ∀ p o, H p = none → o.dict = none → Q (.ref p) (upd H p (.frz o (.tup (cutV xs lo hi)))))
theorem sl_tupF : SlR X (rSlF X.K) := by
  intro pins s σ H x v vl vu lo hi sl Q I rx hs pl pu h
  obtain ⟨a, xs, rfl, hx, q1, q2⟩ := h
  cases rx
  obtain ⟨its, r, ht, hz⟩ := I.tuple hx
  have hlen : its.toArray.size = xs.length := by rw [List.size_toArray]; exact r.length.symm
  refine ⟨"tuple", _, PyProof.Rows.slot_tuple_getitem.lookup, ht.typeIs, ?_⟩
  by_cases hw : HT.sIx xs.length 0 lo = 0 ∧ HT.sIx xs.length xs.length hi = xs.length
  · exact getItem_tuple_whole ht hs pl pu (by rw [hlen]; exact hw) ⟨.ref a, H, I, rfl, q1 hw⟩
  · refine HT.getItem_tuple_cut ht hs pl pu (by rw [hlen]; exact hw) ?_ (by rw [hlen]; exact hz)
    rw [hlen]
    exact laidT (t' := s.toks) I (Nat.le_trans (cutV_length xs lo hi) hz) ((r.drop (HT.sIx xs.length 0 lo)).take (HT.sIx xs.length xs.length hi - HT.sIx xs.length 0 lo)) (q2 hw)
theorem refs_of : ∀ {ps : List Addr} {us : List Value}, Vals (ps.map V.ref) us → us = ps.map Value.ref
  | [], us, r => by rw [List.map_nil] at r; cases r; rfl
  | p :: ps, us, r => by
    rw [List.map_cons] at r
    cases r with
    | cons h t =>
      cases h
      rw [List.map_cons, ← refs_of t]
theorem pairs_of2 {pins : List (Addr × Obj)} {σ : L2.St} {H : Hp} {s : Shared} (I : Inv X pins σ H s) : ∀ {ps : List Addr} {kvs : List (Key × V)}, Paired (fun p kv => SqT X.K H p [kV kv.1, kv.2]) ps kvs →
    ∃ (prs : List (Key × Value)) (pv : List (Value × Value)), KV kvs prs ∧ prs.length = ps.length ∧ pv.length = ps.length ∧ ∀ (j : Nat) (q : Value × Value), pv[j]? = some q → ∃ (b : Addr) (k : Key), ps[j]? = some b ∧ IsTup s.heap b #[q.1, q.2] ∧ prs[j]? = some (k, q.2) ∧ keyIs k q.1 = true
  | _, _, .nil => ⟨[], [], .nil, rfl, rfl, fun j q e => by simp at e⟩
  | _, _, .cons (a := p) (b := kv) h t => by
    obtain ⟨prs, pv, r, hl, hl2, hp⟩ := pairs_of2 I t
    obtain ⟨its, rv, ht, _⟩ := I.tuple h
    obtain ⟨u, y, ei, ru, ry⟩ := vals2 rv
    subst ei
    refine ⟨(kv.1, y) :: prs, (u, y) :: pv, .cons ⟨rfl, ry⟩ r, by rw [List.length_cons, List.length_cons, hl], by rw [List.length_cons, List.length_cons, hl2], fun j q e => ?_⟩
    cases j with
    | zero =>
      have e' : (u, y) = q := Option.some.inj e
      subst e'
      exact ⟨p, kv.1, rfl, ht, rfl, kV_is (P := X.prog) (w := X.w) ru⟩
    | succ j =>
      obtain ⟨b, k, e1, e2, e3, e4⟩ := hp j q (by simpa using e)
      exact ⟨b, k, by simpa using e1, e2, by simpa using e3, e4⟩
/-- dict(t) of a tuple of pairs (key, value) -/
theorem call_dictT (hcalm : X.calm = true) : CallR X (.type "dict") (fun xs H Q => ∃ (a : Addr) (ps : List Addr) (kvs : List (Key × V)), xs = [.ref a] ∧ PTu X.K H a (ps.map V.ref) ∧ Paired (fun p kv => SqT X.K H p [kV kv.1, kv.2]) ps kvs ∧
    ∀ p, H p = none → Q (.ref p) (upd H p (.dK (mergeK [] kvs)))) := by
  intro pins s σ H xs us Q I r q
  obtain ⟨a, ps, kvs, ex, hq, hp, q⟩ := q
  subst ex
  obtain ⟨u, eu, rx⟩ := vals1 r
  subst eu
  cases rx
  obtain ⟨o, its, n, rv, ho, hc, hd, hdat, hz⟩ := Inv.pt I hq
  have ei := refs_of rv
  subst ei
  rw [List.length_map] at hz
  obtain ⟨prs, pv, rel, hl, hl2, hpr⟩ := pairs_of2 I hp
  have items : PairItems s.heap (ps.map Value.ref).toArray (fun j => ps.getD j 0) pv := by
    refine ⟨by simp [hl2], fun j k v hj => ?_⟩
    obtain ⟨b, key, e1, e2, e3, e4⟩ := hpr j (k, v) hj
    have eb : ps.getD j 0 = b := by rw [List.getD_eq_getElem?_getD, e1]; rfl
    refine ⟨by simp [e1, eb], ?_⟩
    show PairAt s.heap (ps.getD j 0) k v
    rw [eb]
    exact .inl e2
  refine PySem.call_dict_pairs (knd := mixKind X.prog X.w) (kvs := prs) (PairArg.tuple a (ps.map Value.ref).toArray (fun j => ps.getD j 0) pv) (I.ok.hd hcalm) ⟨⟨o, n, ho, hc, hd, hdat⟩, items⟩ ⟨by rw [hl, hl2], fun i key v hrel => ?_⟩ (by rw [hl2]; exact hz) fun h' tk hd' k => ?_
  · obtain ⟨b, kk, e1, e2, e3, e4⟩ := hpr i (key, v) hrel
    exact ⟨kk, e3, e4⟩
  · have hm : (s.heap.objs.size == sysModules) = false := beq_eq_false_iff_ne.mpr (Nat.ne_of_gt I.big)
    have hlen : (mergeK [] kvs).length ≤ sizeLine := by
      refine Nat.le_trans (length_mergeK kvs []) ?_
      rw [List.length_nil, Nat.zero_add, rel.length, hl]
      exact hz
    exact ⟨.ref s.heap.objs.size, upd H s.heap.objs.size (.dK (mergeK [] kvs)), I.laid (t' := tk) (fun b o e => k b o (by simp) e) (Nat.le_refl _) (show ObjOk X.prog X.w _ _ _ (.dK (mergeK [] kvs)) from ⟨hlen, hm, merged [] prs, KV.merge rel .nil, hd'⟩), rfl, q _ (I.hok.fresh (Nat.le_refl _))⟩
end
end ML
set_option Elab.async false
set_option linter.all false
set_option maxRecDepth 100000
set_option maxHeartbeats 2000000
set_option autoImplicit false
/-! M: a small language of results over the hand layer. Data without addresses; what stands in the heap tells it. -/
namespace ML
open PySem PySem.Spec PyProof.Rows L2

/-- a value as plain data; .ref n: the n-th thing of the store that may change -/
inductive D where
  | non | bl (b : Bool) | int (i : Int) | str (x : Str) | ty (n : String)
  | tup (l : List D) | lst (l : List D) | scr (l : List D) | dic (ks : List Key) (l : List D) | ref (n : Nat)

/-- what is in the store: a list, a dict, an instance with its attributes; gone: nobody's any more -/
inductive Ob where
  | lst (l : List D) | dic (ks : List Key) (l : List D) | ins (c : Nat) (fs : List (Str × D)) | gone

abbrev MH := List Ob
/-- an exception: the place of its class, what it keeps -/
structure Exn where
  c : Nat
  fs : List (Str × D)
inductive Res (α : Type) where
  | ok (a : α) (h : MH) | exc (x : Exn) (h : MH) | stuck
abbrev Sl := List (Option D)
/-- how a statement ends -/
inductive SR where
  | next (ds : Sl) (h : MH) | ret (d : D) (h : MH) | brk (ds : Sl) (h : MH) | cont (ds : Sl) (h : MH) | exc (x : Exn) (ds : Sl) (h : MH) | stuck
abbrev ME := Sl → MH → Res D
abbrev MA := Sl → MH → Res (List D)
abbrev MS := Sl → MH → SR

/-- what is fixed through the law: the written part, the classes' addresses -/
structure Gd where
  K : PySem.W.Frag
  cl : List Addr
  T : List (Addr × Str)
/-- a world. F: what is never written; mu: where the store lies; fr: what is left alone for now -/
structure Wd where
  F : Hp
  mu : List Addr
  fr : Hp

section
variable (g : Gd)
mutual
def Rep (w : Wd) : D → V → Prop
  | .non, v => v = .non
  | .bl b, v => v = .bl b
  | .int i, v => v = .int i
  | .str x, v => v = .str x
  | .ty n, v => v = .ty n
  | .tup l, v => ∃ a vs, v = .ref a ∧ PTu g.K w.F a vs ∧ Reps w l vs
  | .lst l, v => ∃ a vs, v = .ref a ∧ w.F a = some (.lst vs) ∧ Reps w l vs
  | .scr l, v => ∃ a vs, v = .ref a ∧ SqL g.K w.F a vs ∧ Reps w l vs
  | .dic ks l, v => ∃ a kvs, v = .ref a ∧ w.F a = some (.dK kvs) ∧ kvs.map (·.1) = ks ∧ Reps w l (kvs.map (·.2))
  | .ref n, v => ∃ a, v = .ref a ∧ w.mu[n]? = some a
def Reps (w : Wd) : List D → List V → Prop
  | [], vs => vs = []
  | d :: ds, vs => ∃ v r, vs = v :: r ∧ Rep w d v ∧ Reps w ds r
end

/-- w' tells all that w told -/
structure Le (w w' : Wd) : Prop where
  F : ∀ a o, w.F a = some o → w'.F a = some o
  mu : ∀ (n : Nat) (a : Addr), w.mu[n]? = some a → w'.mu[n]? = some a
  fr : ∀ a o, w.fr a = some o → w'.fr a = some o
theorem Le.refl (w : Wd) : Le w w := ⟨fun _ _ h => h, fun _ _ h => h, fun _ _ h => h⟩
theorem Le.trans {a b c : Wd} (x : Le a b) (y : Le b c) : Le a c := ⟨fun p o h => y.F p o (x.F p o h), fun n p h => y.mu n p (x.mu n p h), fun p o h => y.fr p o (x.fr p o h)⟩

theorem Rd.mono {H H' : Hp} {a : Addr} {u : HO} (h : ∀ a o, H a = some o → H' a = some o) (r : Rd H a u) : Rd H' a u := by
  rcases r with r | ⟨o, r⟩
  · exact .inl (h _ _ r)
  · exact .inr ⟨o, h _ _ r⟩
theorem SqT.mono {K : PySem.W.Frag} {H H' : Hp} {a : Addr} {xs : List V} (h : ∀ a o, H a = some o → H' a = some o) (r : SqT K H a xs) : SqT K H' a xs := by
  rcases r with r | r
  · exact .inl (Rd.mono h r)
  · exact .inr r
theorem SqL.mono {K : PySem.W.Frag} {H H' : Hp} {a : Addr} {xs : List V} (h : ∀ a o, H a = some o → H' a = some o) (r : SqL K H a xs) : SqL K H' a xs := by
  rcases r with r | r
  · exact .inl (Rd.mono h r)
  · exact .inr r
variable {g}
mutual
theorem Rep.mono2 {w w' : Wd} (lF : ∀ a o, w.F a = some o → w'.F a = some o) (lm : ∀ (n : Nat) (a : Addr), w.mu[n]? = some a → w'.mu[n]? = some a) : ∀ (d : D) {v : V}, Rep g w d v → Rep g w' d v
  | .non, _, h | .bl _, _, h | .int _, _, h | .str _, _, h | .ty _, _, h => by simpa [Rep] using h
  | .tup l', _, h => by
    simp only [Rep] at h ⊢
    obtain ⟨a, vs, e, s, r⟩ := h
    exact ⟨a, vs, e, PTu.mono lF s, Reps.mono2 lF lm l' r⟩
  | .lst l', _, h => by
    simp only [Rep] at h ⊢
    obtain ⟨a, vs, e, s, r⟩ := h
    exact ⟨a, vs, e, lF _ _ s, Reps.mono2 lF lm l' r⟩
  | .scr l', _, h => by
    simp only [Rep] at h ⊢
    obtain ⟨a, vs, e, s, r⟩ := h
    exact ⟨a, vs, e, SqL.mono lF s, Reps.mono2 lF lm l' r⟩
  | .dic ks l', _, h => by
    simp only [Rep] at h ⊢
    obtain ⟨a, kvs, e, s, k, r⟩ := h
    exact ⟨a, kvs, e, lF _ _ s, k, Reps.mono2 lF lm l' r⟩
  | .ref n, _, h => by
    simp only [Rep] at h ⊢
    obtain ⟨a, e, s⟩ := h
    exact ⟨a, e, lm n a s⟩
theorem Reps.mono2 {w w' : Wd} (lF : ∀ a o, w.F a = some o → w'.F a = some o) (lm : ∀ (n : Nat) (a : Addr), w.mu[n]? = some a → w'.mu[n]? = some a) : ∀ (ds : List D) {vs : List V}, Reps g w ds vs → Reps g w' ds vs
  | [], _, h => by simpa [Reps] using h
  | d :: ds, _, h => by
    simp only [Reps] at h ⊢
    obtain ⟨v, r, e, h1, h2⟩ := h
    exact ⟨v, r, e, Rep.mono2 lF lm d h1, Reps.mono2 lF lm ds h2⟩
end
theorem Rep.mono {w w' : Wd} (l : Le w w') (d : D) {v : V} (h : Rep g w d v) : Rep g w' d v := Rep.mono2 l.F l.mu d h
theorem Reps.mono {w w' : Wd} (l : Le w w') (ds : List D) {vs : List V} (h : Reps g w ds vs) : Reps g w' ds vs := Reps.mono2 l.F l.mu ds h
theorem Reps.cast {w w' : Wd} (e1 : w'.F = w.F) (e2 : w'.mu = w.mu) {d : List D} {v : List V} (r : Reps g w d v) : Reps g w' d v := Reps.mono2 (fun a o e => by rw [e1]; exact e) (fun n a e => by rw [e2]; exact e) d r
theorem Rep.cast {w w' : Wd} (e1 : w'.F = w.F) (e2 : w'.mu = w.mu) {d : D} {v : V} (r : Rep g w d v) : Rep g w' d v := Rep.mono2 (fun a o e => by rw [e1]; exact e) (fun n a e => by rw [e2]; exact e) d r
end

section
variable {g : Gd} {w w' : Wd}
theorem Reps.nil : Reps g w [] [] := by simp [Reps]
theorem Reps.cons {d : D} {ds : List D} {v : V} {vs : List V} (h : Rep g w d v) (t : Reps g w ds vs) : Reps g w (d :: ds) (v :: vs) := by
  simp only [Reps]; exact ⟨v, vs, rfl, h, t⟩
theorem Reps.uncons {d : D} {ds : List D} {vs : List V} (h : Reps g w (d :: ds) vs) : ∃ v r, vs = v :: r ∧ Rep g w d v ∧ Reps g w ds r := by
  simpa only [Reps] using h
theorem Reps.of_nil {vs : List V} (h : Reps g w [] vs) : vs = [] := by simpa only [Reps] using h
theorem Reps.length : ∀ {ds : List D} {vs : List V}, Reps g w ds vs → ds.length = vs.length
  | [], _, h => by rw [h.of_nil] <;> rfl
  | d :: ds, _, h => by
    obtain ⟨v, r, rfl, _, t⟩ := h.uncons
    simp [Reps.length t]
theorem Reps.append : ∀ {ds es : List D} {vs us : List V}, Reps g w ds vs → Reps g w es us → Reps g w (ds ++ es) (vs ++ us)
  | [], _, _, _, h, t => by rw [h.of_nil]; exact t
  | d :: ds, _, _, _, h, t => by
    obtain ⟨v, r, rfl, h1, h2⟩ := h.uncons
    exact .cons h1 (Reps.append h2 t)
theorem Reps.get : ∀ {ds : List D} {vs : List V} {i : Nat} {d : D}, Reps g w ds vs → ds[i]? = some d → ∃ v, vs[i]? = some v ∧ Rep g w d v
  | [], _, _, _, _, e => by simp at e
  | x :: ds, _, 0, d, h, e => by
    obtain ⟨v, r, rfl, h1, h2⟩ := h.uncons
    simp at e; subst e
    exact ⟨v, rfl, h1⟩
  | x :: ds, _, i + 1, d, h, e => by
    obtain ⟨v, r, rfl, h1, h2⟩ := h.uncons
    obtain ⟨u, e1, e2⟩ := Reps.get (i := i) h2 (by simpa using e)
    exact ⟨u, by simpa using e1, e2⟩
theorem Reps.set {d : D} {v : V} (hd : Rep g w d v) : ∀ {ds : List D} {vs : List V} (i : Nat), Reps g w ds vs → Reps g w (ds.set i d) (vs.set i v)
  | [], _, _, h => by rw [h.of_nil]; exact .nil
  | x :: ds, _, 0, h => by
    obtain ⟨v, r, rfl, h1, h2⟩ := h.uncons
    exact .cons hd h2
  | x :: ds, _, i + 1, h => by
    obtain ⟨v, r, rfl, h1, h2⟩ := h.uncons
    exact .cons h1 (Reps.set hd i h2)
theorem Reps.take : ∀ {ds : List D} {vs : List V} (n : Nat), Reps g w ds vs → Reps g w (ds.take n) (vs.take n)
  | [], _, n, h => by rw [h.of_nil]; simpa using Reps.nil
  | x :: ds, _, 0, h => by simpa using Reps.nil
  | x :: ds, _, n + 1, h => by
    obtain ⟨v, r, rfl, h1, h2⟩ := h.uncons
    exact .cons h1 (Reps.take n h2)
theorem Reps.drop : ∀ {ds : List D} {vs : List V} (n : Nat), Reps g w ds vs → Reps g w (ds.drop n) (vs.drop n)
  | [], _, n, h => by rw [h.of_nil]; simpa using Reps.nil
  | x :: ds, _, 0, h => h
  | x :: ds, _, n + 1, h => by
    obtain ⟨v, r, rfl, h1, h2⟩ := h.uncons
    exact Reps.drop n h2
theorem Reps.eraseIdx : ∀ {ds : List D} {vs : List V} (n : Nat), Reps g w ds vs → Reps g w (ds.eraseIdx n) (vs.eraseIdx n)
  | [], _, n, h => by rw [h.of_nil]; simpa using Reps.nil
  | x :: ds, _, 0, h => by
    obtain ⟨v, r, rfl, h1, h2⟩ := h.uncons
    exact h2
  | x :: ds, _, n + 1, h => by
    obtain ⟨v, r, rfl, h1, h2⟩ := h.uncons
    exact .cons h1 (Reps.eraseIdx n h2)
end

/-- an instance's attributes -/
def RepF (g : Gd) (w : Wd) : List (Str × D) → List (Str × V) → Prop := fun fs fvs => fs.map (·.1) = fvs.map (·.1) ∧ Reps g w (fs.map (·.2)) (fvs.map (·.2))
theorem RepF.mono {g : Gd} {w w' : Wd} (l : Le w w') {fs : List (Str × D)} {fvs : List (Str × V)} (h : RepF g w fs fvs) : RepF g w' fs fvs := ⟨h.1, Reps.mono l _ h.2⟩
theorem RepF.uncons {g : Gd} {w : Wd} {k : Str} {d : D} {fs : List (Str × D)} {fvs : List (Str × V)} (h : RepF g w ((k, d) :: fs) fvs) : ∃ v r, fvs = (k, v) :: r ∧ Rep g w d v ∧ RepF g w fs r := by
  obtain ⟨h1, h2⟩ := h
  cases fvs with
  | nil => simp at h1
  | cons p r =>
    obtain ⟨k', v⟩ := p
    simp only [List.map_cons, List.cons.injEq] at h1 h2
    obtain ⟨v', r', e, a, b⟩ := h2.uncons
    cases e
    obtain ⟨rfl, h1⟩ := h1
    exact ⟨v, r, rfl, a, h1, b⟩
theorem RepF.of_nil {g : Gd} {w : Wd} {fvs : List (Str × V)} (h : RepF g w [] fvs) : fvs = [] := by
  cases fvs with
  | nil => rfl
  | cons p r => simp [RepF] at h
theorem RepF.look {g : Gd} {w : Wd} {f : Str} : ∀ {fs : List (Str × D)} {fvs : List (Str × V)} {d : D}, RepF g w fs fvs → fs.lookup f = some d → ∃ v, fvs.lookup f = some v ∧ Rep g w d v
  | [], _, _, _, e => by simp at e
  | (k, x) :: fs, _, d, h, e => by
    obtain ⟨v, r, rfl, h1, h2⟩ := h.uncons
    rw [List.lookup_cons] at e ⊢
    cases hb : f == k with
    | true => rw [hb] at e; simp at e; subst e; exact ⟨v, by simp [hb], h1⟩
    | false => rw [hb] at e; simp only [hb]; exact RepF.look h2 e
theorem RepF.look_none {g : Gd} {w : Wd} {f : Str} : ∀ {fs : List (Str × D)} {fvs : List (Str × V)}, RepF g w fs fvs → fs.lookup f = none → fvs.lookup f = none
  | [], _, h, _ => by rw [h.of_nil]; rfl
  | (k, x) :: fs, _, h, e => by
    obtain ⟨v, r, rfl, h1, h2⟩ := h.uncons
    rw [List.lookup_cons] at e ⊢
    cases hb : f == k with
    | true => rw [hb] at e; simp at e
    | false => rw [hb] at e; simp only; exact RepF.look_none h2 e
/-- an attribute put -/
def putD (f : Str) (d : D) : List (Str × D) → List (Str × D)
  | [] => [(f, d)]
  | (k, x) :: r => if k = f then (k, d) :: r else (k, x) :: putD f d r
theorem RepF.put {g : Gd} {w : Wd} {f : Str} {d : D} {v : V} (hd : Rep g w d v) : ∀ {fs : List (Str × D)} {fvs : List (Str × V)}, RepF g w fs fvs → RepF g w (putD f d fs) (putF f v fvs)
  | [], _, h => by rw [h.of_nil]; exact ⟨rfl, .cons hd .nil⟩
  | (k, x) :: fs, _, h => by
    obtain ⟨u, r, rfl, h1, h2⟩ := h.uncons
    rw [show putF f v ((k, u) :: r) = (if k = f then (k, v) :: r else (k, u) :: putF f v r) from rfl, putD]
    by_cases e : k = f
    · rw [if_pos e, if_pos e]
      exact ⟨by simp [h2.1], .cons hd h2.2⟩
    · rw [if_neg e, if_neg e]
      have ih := RepF.put (f := f) hd h2
      exact ⟨by simp [ih.1], .cons h1 ih.2⟩
theorem RepF.length {g : Gd} {w : Wd} {fs : List (Str × D)} {fvs : List (Str × V)} (h : RepF g w fs fvs) : fs.length = fvs.length := by
  have := congrArg List.length h.1
  simpa using this

/-- what may be written -/
def Sto : HO → Prop
  | .lst _ => True | .dK _ => True | .ins _ _ _ => True | _ => False
theorem tabs_upd {T : List (Addr × Str)} {H : Hp} {a : Addr} {o : HO} (t : LamX.Tabs T H) (hs : ∃ u, H a = some u ∧ Sto u) : LamX.Tabs T (upd H a o) := by
  obtain ⟨u, hu, su⟩ := hs
  intro p hp
  obtain ⟨ps, h1, h2, h3⟩ := t p hp
  refine ⟨ps, ?_, h2, fun pos cv hc => ?_⟩
  · rw [upd_ne]
    · exact h1
    · intro z; rw [z, hu] at h1; cases h1; exact su
  · obtain ⟨c, e1, e2⟩ := h3 pos cv hc
    refine ⟨c, e1, ?_⟩
    rw [upd_ne]
    · exact e2
    · intro z; rw [z, hu] at e2; cases e2; exact su
/-- a thing of the store, at a -/
def ObAt (g : Gd) (w : Wd) (H : Hp) (a : Addr) : Ob → Prop
  | .lst l => w.F a = none ∧ ∃ vs, H a = some (.lst vs) ∧ Reps g w l vs
  | .dic ks l => w.F a = none ∧ ∃ kvs, H a = some (.dK kvs) ∧ kvs.map (·.1) = ks ∧ Reps g w l (kvs.map (·.2))
  | .ins c fs => w.F a = none ∧ ∃ C dx fvs, g.cl[c]? = some C ∧ H a = some (.ins C dx fvs) ∧ RepF g w fs fvs
  | .gone => ∃ o, H a = some o ∧ ∀ ps, o ≠ .tbl ps
/-- the heap is that of the store -/
structure SimH (g : Gd) (w : Wd) (h : MH) (H : Hp) : Prop where
  sub : ∀ a o, w.F a = some o → H a = some o
  len : w.mu.length = h.length
  nd : w.mu.Nodup
  ob : ∀ (n : Nat) (o : Ob), h[n]? = some o → ∃ a, w.mu[n]? = some a ∧ ObAt g w H a o
  fr : ∀ a o, w.fr a = some o → H a = some o ∧ w.F a = none ∧ a ∉ w.mu ∧ Sto o
  tb : LamX.Tabs g.T H
  nt : ∀ a o, w.F a = some o → ∀ ps, o ≠ .tbl ps
theorem ObAt.there {g : Gd} {w : Wd} {H : Hp} {a : Addr} {o : Ob} (h : ObAt g w H a o) : ∃ u, H a = some u := by
  cases o with
  | lst l => obtain ⟨_, vs, e, _⟩ := h; exact ⟨_, e⟩
  | dic ks l => obtain ⟨_, vs, e, _⟩ := h; exact ⟨_, e⟩
  | ins c fs => obtain ⟨_, C, dx, fvs, _, e, _⟩ := h; exact ⟨_, e⟩
  | gone => obtain ⟨o, e, _⟩ := h; exact ⟨o, e⟩
/-- slots -/
def SimS (g : Gd) (w : Wd) (ds : Sl) (σ : L2.St) : Prop := ds.length = σ.length ∧ ∀ (i : Nat) (d : D), ds[i]? = some (some d) → ∃ v, σ[i]? = some (some v) ∧ Rep g w d v
theorem SimS.mono {g : Gd} {w w' : Wd} (l : Le w w') {ds : Sl} {σ : L2.St} (h : SimS g w ds σ) : SimS g w' ds σ :=
  ⟨h.1, fun i d e => let ⟨v, e1, r⟩ := h.2 i d e; ⟨v, e1, Rep.mono l d r⟩⟩
theorem SimS.set {g : Gd} {w : Wd} {ds : Sl} {σ : L2.St} (h : SimS g w ds σ) {i : Nat} {d : D} {v : V} (r : Rep g w d v) : SimS g w (ds.set i (some d)) (σ.set i (some v)) := by
  refine ⟨by simp [h.1], fun j e hj => ?_⟩
  by_cases hi : i = j
  · subst hi
    by_cases hl : i < ds.length
    · rw [List.getElem?_set_self hl] at hj
      cases hj
      exact ⟨v, by rw [List.getElem?_set_self (by rw [← h.1]; exact hl)], r⟩
    · rw [List.getElem?_eq_none (by simpa using hl)] at hj; cases hj
  · rw [List.getElem?_set_ne hi] at hj ⊢
    exact h.2 j e hj
/-- a slot forgotten -/
theorem SimS.drop {g : Gd} {w : Wd} {ds : Sl} {σ : L2.St} (h : SimS g w ds σ) (i : Nat) (o : Option V) : SimS g w (ds.set i none) (σ.set i o) := by
  refine ⟨by simp [h.1], fun j e hj => ?_⟩
  by_cases hi : i = j
  · subst hi
    by_cases hl : i < ds.length
    · rw [List.getElem?_set_self hl] at hj; cases hj
    · rw [List.getElem?_eq_none (by simpa using hl)] at hj; cases hj
  · rw [List.getElem?_set_ne hi] at hj ⊢
    exact h.2 j e hj

/-! ### the heap grows, is written -/
section
variable {g : Gd} {w : Wd} {h : MH} {H : Hp}
/-- a new unchanging thing -/
def Wd.add (w : Wd) (p : Addr) (o : HO) : Wd := ⟨upd w.F p o, w.mu, w.fr⟩
theorem SimH.free (s : SimH g w h H) {p : Addr} (hp : H p = none) : w.F p = none := by
  cases e : w.F p with
  | none => rfl
  | some o => rw [s.sub p o e] at hp; cases hp
theorem Le.add {p : Addr} (hp : w.F p = none) (o : HO) : Le w (w.add p o) := ⟨fun a u e => by
  show upd w.F p o a = some u
  rw [upd_ne (ne_of_none e hp)]; exact e, fun _ _ e => e, fun _ _ e => e⟩
theorem ObAt.mono {w w' : Wd} {H H' : Hp} {a : Addr} {o : Ob} (l : Le w w') (hF : w.F a = none → w'.F a = none) (hH : ∀ u, H a = some u → H' a = some u) (x : ObAt g w H a o) : ObAt g w' H' a o := by
  cases o with
  | lst l' => obtain ⟨f, vs, e, r⟩ := x; exact ⟨hF f, vs, hH _ e, Reps.mono l _ r⟩
  | dic ks l' => obtain ⟨f, vs, e, k, r⟩ := x; exact ⟨hF f, vs, hH _ e, k, Reps.mono l _ r⟩
  | ins c fs => obtain ⟨f, C, dx, fvs, k, e, r⟩ := x; exact ⟨hF f, C, dx, fvs, k, hH _ e, RepF.mono l r⟩
  | gone => obtain ⟨u, e, n⟩ := x; exact ⟨u, hH _ e, n⟩
/-- only new things in the heap -/
theorem SimH.ext {H' : Hp} (s : SimH g w h H) (e : ∀ a o, H a = some o → H' a = some o) : SimH g w h H' :=
  ⟨fun a o q => e a o (s.sub a o q), s.len, s.nd, fun n o q => let ⟨a, m, x⟩ := s.ob n o q; ⟨a, m, x.mono (Le.refl w) (fun z => z) (e a)⟩, fun a o q => ⟨e a o (s.fr a o q).1, (s.fr a o q).2⟩, s.tb.ext e, s.nt⟩
theorem ext_upd {p : Addr} {o : HO} (hp : H p = none) : ∀ a u, H a = some u → upd H p o a = some u := fun a u e => by
  rw [upd_ne (ne_of_none e hp)]; exact e
theorem SimH.at_ (s : SimH g w h H) {n : Nat} {a : Addr} (m : w.mu[n]? = some a) : ∃ o, h[n]? = some o ∧ ObAt g w H a o := by
  have hn : n < h.length := by rw [← s.len]; exact (List.getElem?_eq_some_iff.mp m).1
  obtain ⟨a', m', x⟩ := s.ob n h[n] (by simp [hn])
  rw [m] at m'; cases m'
  exact ⟨h[n], by simp [hn], x⟩
theorem SimH.mem (s : SimH g w h H) {n : Nat} {a : Addr} (m : w.mu[n]? = some a) : ∃ u, H a = some u := let ⟨_, _, x⟩ := s.at_ m; x.there
/-- a new unchanging thing -/
theorem SimH.add (s : SimH g w h H) {p : Addr} (o : HO) (hp : H p = none) (nt : ∀ ps, o ≠ .tbl ps := by intro ps z; cases z) : SimH g (w.add p o) h (upd H p o) := by
  refine ⟨fun a u e => ?_, s.len, s.nd, fun n o' q => ?_, fun a u e => ?_, s.tb.ext (ext_upd hp), fun a u e => ?_⟩
  · by_cases ha : a = p
    · subst ha
      rw [show (w.add a o).F a = some o from upd_same] at e
      cases e
      exact upd_same
    · rw [show (w.add p o).F a = w.F a from upd_ne ha] at e
      rw [upd_ne ha]; exact s.sub a u e
  · obtain ⟨a, m, x⟩ := s.ob n o' q
    obtain ⟨u, hu⟩ := x.there
    have ha : a ≠ p := ne_of_none hu hp
    exact ⟨a, m, x.mono (Le.add (s.free hp) o) (fun z => by show upd w.F p o a = none; rw [upd_ne ha]; exact z) (ext_upd hp a)⟩
  · obtain ⟨h1, h2, h3⟩ := s.fr a u e
    have ha : a ≠ p := ne_of_none h1 hp
    exact ⟨by rw [upd_ne ha]; exact h1, by show upd w.F p o a = none; rw [upd_ne ha]; exact h2, h3⟩
  · have e : upd w.F p o a = some u := e
    by_cases ha : a = p
    · subst ha; rw [upd_same] at e; cases e; exact nt
    · rw [upd_ne ha] at e; exact s.nt a u e
/-- a new thing of the store -/
def Wd.new (w : Wd) (p : Addr) : Wd := ⟨w.F, w.mu ++ [p], w.fr⟩
theorem Le.new (w : Wd) (p : Addr) : Le w (w.new p) := ⟨fun _ _ e => e, fun n a e => by
  show (w.mu ++ [p])[n]? = some a
  rw [List.getElem?_append_left (List.getElem?_eq_some_iff.mp e).1]; exact e, fun _ _ e => e⟩
theorem SimH.new (s : SimH g w h H) {p : Addr} {o : Ob} {H' : Hp} (hp : H p = none) (e : ∀ a u, H a = some u → H' a = some u) (x : ObAt g (w.new p) H' p o) : SimH g (w.new p) (h ++ [o]) H' := by
  refine ⟨fun a u q => e a u (s.sub a u q), by show (w.mu ++ [p]).length = _; simp [s.len], ?_, fun n o' q => ?_, fun a u q => ?_, s.tb.ext e, s.nt⟩
  · show (w.mu ++ [p]).Nodup
    rw [List.nodup_append]
    refine ⟨s.nd, by simp, fun a ha b hb => ?_⟩
    obtain ⟨n, hn⟩ := List.getElem?_of_mem ha
    obtain ⟨u, hu⟩ := s.mem hn
    simp at hb; subst hb
    exact ne_of_none hu hp
  · by_cases hn : n < h.length
    · rw [List.getElem?_append_left hn] at q
      obtain ⟨a, m, y⟩ := s.ob n o' q
      exact ⟨a, (Le.new w p).mu n a m, y.mono (Le.new w p) (fun z => z) (e a)⟩
    · have hl : n = h.length := by
        have := (List.getElem?_eq_some_iff.mp q).1
        simp at this; omega
      subst hl
      rw [List.getElem?_append_right (Nat.le_refl _)] at q
      simp at q; subst q
      refine ⟨p, ?_, x⟩
      show (w.mu ++ [p])[h.length]? = some p
      rw [← s.len, List.getElem?_append_right (Nat.le_refl _)]; simp
  · obtain ⟨h1, h2, h3⟩ := s.fr a u q
    have ha : a ≠ p := ne_of_none h1 hp
    refine ⟨e a u h1, h2, ?_, h3.2⟩
    show a ∉ w.mu ++ [p]
    simp [h3.1, ha]
/-- a thing of the store is written -/
theorem SimH.write (s : SimH g w h H) {n : Nat} {a : Addr} {o : Ob} {u : HO} (m : w.mu[n]? = some a) (hF : w.F a = none) (hs : ∃ u, H a = some u ∧ Sto u) (x : ObAt g w (upd H a u) a o) : SimH g w (h.set n o) (upd H a u) := by
  refine ⟨fun b q e => ?_, by simp [s.len], s.nd, fun k o' q => ?_, fun b q e => ?_, tabs_upd s.tb hs, s.nt⟩
  · have hb : b ≠ a := fun z => by subst z; rw [hF] at e; cases e
    rw [upd_ne hb]; exact s.sub b q e
  · by_cases hk : n = k
    · subst hk
      have hl : n < h.length := by rw [← s.len]; exact (List.getElem?_eq_some_iff.mp m).1
      rw [List.getElem?_set_self hl] at q
      cases q
      exact ⟨a, m, x⟩
    · rw [List.getElem?_set_ne hk] at q
      obtain ⟨b, m', y⟩ := s.ob k o' q
      have hb : b ≠ a := fun z => by
        subst z
        have h1 := (List.getElem?_eq_some_iff.mp m)
        have h2 := (List.getElem?_eq_some_iff.mp m')
        exact hk ((List.getElem_inj s.nd).mp (h1.2.trans h2.2.symm))
      exact ⟨b, m', y.mono (Le.refl w) (fun z => z) fun v e => by rw [upd_ne hb]; exact e⟩
  · obtain ⟨h1, h2, h3⟩ := s.fr b q e
    have hb : b ≠ a := fun z => by subst z; exact h3.1 (List.mem_of_getElem? m)
    exact ⟨by rw [upd_ne hb]; exact h1, h2, h3⟩
/-- a list of the store comes to be an unchanging one -/
theorem SimH.freeze (s : SimH g w h H) {n : Nat} {a : Addr} {l : List D} (m : w.mu[n]? = some a) (hn : h[n]? = some (.lst l)) : ∃ vs, H a = some (.lst vs) ∧ Reps g w l vs ∧ Le w (w.add a (.lst vs)) ∧ SimH g (w.add a (.lst vs)) (h.set n .gone) H := by
  obtain ⟨a', m', hF, vs, e, r⟩ := s.ob n _ hn
  rw [m] at m'; cases m'
  have le : Le w (w.add a (.lst vs)) := Le.add hF _
  refine ⟨vs, e, r, le, fun b q e' => ?_, by show w.mu.length = _; simp [s.len], s.nd, fun k o' q => ?_, fun b q e' => ?_, s.tb, fun b q e' => ?_⟩
  · by_cases hb : b = a
    · subst hb
      rw [show (w.add b (.lst vs)).F b = some (.lst vs) from upd_same] at e'
      cases e'; exact e
    · rw [show (w.add a (.lst vs)).F b = w.F b from upd_ne hb] at e'
      exact s.sub b q e'
  · by_cases hk : n = k
    · subst hk
      have hl : n < h.length := by rw [← s.len]; exact (List.getElem?_eq_some_iff.mp m).1
      rw [List.getElem?_set_self hl] at q
      cases q
      exact ⟨a, m, ⟨_, e, fun ps z => by cases z⟩⟩
    · rw [List.getElem?_set_ne hk] at q
      obtain ⟨b, m', y⟩ := s.ob k o' q
      have hb : b ≠ a := fun z => by
        subst z
        have h1 := (List.getElem?_eq_some_iff.mp m)
        have h2 := (List.getElem?_eq_some_iff.mp m')
        exact hk ((List.getElem_inj s.nd).mp (h1.2.trans h2.2.symm))
      exact ⟨b, m', y.mono le (fun z => by show upd w.F a _ b = none; rw [upd_ne hb]; exact z) fun v e => e⟩
  · obtain ⟨h1, h2, h3⟩ := s.fr b q e'
    have hb : b ≠ a := fun z => by subst z; exact h3.1 (List.mem_of_getElem? m)
    exact ⟨h1, by show upd w.F a _ b = none; rw [upd_ne hb]; exact h2, h3⟩
  · have e' : upd w.F a (.lst vs) b = some q := e'
    by_cases hb : b = a
    · subst hb; rw [upd_same] at e'; cases e'; exact fun ps z => by cases z
    · rw [upd_ne hb] at e'; exact s.nt b q e'
end
/-- a thing to be left alone -/
def Wd.hold (w : Wd) (p : Addr) (o : HO) : Wd := ⟨w.F, w.mu, upd w.fr p o⟩
/-- .. let go again -/
def Wd.unhold (w w0 : Wd) : Wd := ⟨w.F, w.mu, w0.fr⟩
section
variable {g : Gd} {w w0 : Wd} {h : MH} {H : Hp}
theorem Le.hold {p : Addr} (hp : w.fr p = none) (o : HO) : Le w (w.hold p o) := ⟨fun _ _ e => e, fun _ _ e => e, fun a u e => by
  show upd w.fr p o a = some u
  rw [upd_ne (ne_of_none e hp)]; exact e⟩
theorem SimH.hold (s : SimH g w h H) {p : Addr} {o : HO} (hp : H p = none) (so : Sto o) : SimH g (w.hold p o) h (upd H p o) := by
  have s' := s.ext (ext_upd (o := o) hp)
  refine ⟨s'.sub, s.len, s.nd, fun n o' q => ?_, fun a u e => ?_, s'.tb, s.nt⟩
  · obtain ⟨a, m, x⟩ := s'.ob n o' q
    exact ⟨a, m, x.mono (Le.hold (by
      cases e : w.fr p with
      | none => rfl
      | some u => rw [(s.fr p u e).1] at hp; cases hp) o) (fun z => z) fun _ z => z⟩
  · by_cases ha : a = p
    · subst ha
      have e1 : upd w.fr a o a = some u := e
      rw [upd_same] at e1
      cases e1
      refine ⟨upd_same, s.free hp, fun m => ?_, so⟩
      obtain ⟨n, hn⟩ := List.getElem?_of_mem m
      obtain ⟨u, hu⟩ := s.mem hn
      rw [hp] at hu; cases hu
    · have e1 : upd w.fr p o a = some u := e
      rw [upd_ne ha] at e1
      exact s'.fr a u e1
theorem SimH.held (s : SimH g w h H) {p : Addr} {o : HO} (e : w.fr p = some o) : H p = some o := (s.fr p o e).1
theorem Le.unhold (l : Le w0 w) : Le w0 (w.unhold w0) := ⟨l.F, l.mu, fun _ _ e => e⟩
/-- what is held is written, held on, or let go -/
theorem SimH.rehold (s : SimH g w h H) {p : Addr} {o : HO} (e : w.fr p = some o) (l : Le w0 w) (h0 : w0.fr p = none) (u : HO) (su : Sto u) : SimH g ((w.unhold w0).hold p u) h (upd H p u) := by
  obtain ⟨h1, h2, h3⟩ := s.fr p o e
  have l1 : ∀ {a o}, ObAt g w H a o → a ≠ p → ObAt g ((w.unhold w0).hold p u) (upd H p u) a o := fun {a o} x ha => by
    have q : ∀ v, H a = some v → upd H p u a = some v := fun v e => by rw [upd_ne ha]; exact e
    have m : ∀ {ds vs}, Reps g w ds vs → Reps g ((w.unhold w0).hold p u) ds vs := fun {ds vs} r => Reps.cast (w := w) (w' := (w.unhold w0).hold p u) rfl rfl r
    cases o with
    | lst l' => obtain ⟨f, vs, e, r⟩ := x; exact ⟨f, vs, q _ e, m r⟩
    | dic ks l' => obtain ⟨f, vs, e, k, r⟩ := x; exact ⟨f, vs, q _ e, k, m r⟩
    | ins c fs => obtain ⟨f, C, dx, fvs, k, e, r⟩ := x; exact ⟨f, C, dx, fvs, k, q _ e, r.1, m r.2⟩
    | gone => obtain ⟨v, e, n⟩ := x; exact ⟨v, q _ e, n⟩
  refine ⟨fun a v q => ?_, s.len, s.nd, fun n o' q => ?_, fun a v q => ?_, tabs_upd s.tb ⟨o, h1, h3.2⟩, s.nt⟩
  · have q' : w.F a = some v := q
    have ha : a ≠ p := ne_of_none q' h2
    rw [upd_ne ha]; exact s.sub a v q'
  · obtain ⟨a, m, x⟩ := s.ob n o' q
    exact ⟨a, m, l1 x fun z => by subst z; exact h3.1 (List.mem_of_getElem? m)⟩
  · by_cases ha : a = p
    · subst ha
      have e1 : upd w0.fr a u a = some v := q
      rw [upd_same] at e1
      cases e1
      exact ⟨upd_same, h2, h3.1, su⟩
    · have e1 : upd w0.fr p u a = some v := q
      rw [upd_ne ha] at e1
      obtain ⟨k1, k2, k3⟩ := s.fr a v (l.fr a v e1)
      exact ⟨by rw [upd_ne ha]; exact k1, k2, k3⟩
/-- what is held comes to be unchanging -/
theorem SimH.letgo (s : SimH g w h H) {p : Addr} {o : HO} (e : w.fr p = some o) (l : Le w0 w) (h0 : w0.fr p = none) : SimH g ((w.unhold w0).add p o) h H := by
  obtain ⟨h1, h2, h3⟩ := s.fr p o e
  have l1 : Le (w.unhold w0) ((w.unhold w0).add p o) := Le.add (w := w.unhold w0) h2 o
  refine ⟨fun a v q => ?_, s.len, s.nd, fun n o' q => ?_, fun a v q => ?_, s.tb, fun a v q => ?_⟩
  · by_cases ha : a = p
    · subst ha
      rw [show ((w.unhold w0).add a o).F a = some o from upd_same] at q
      cases q
      exact h1
    · rw [show ((w.unhold w0).add p o).F a = w.F a from upd_ne ha] at q
      exact s.sub a v q
  · obtain ⟨a, m, x⟩ := s.ob n o' q
    have ha : a ≠ p := fun z => by subst z; exact h3.1 (List.mem_of_getElem? m)
    have x' : ObAt g (w.unhold w0) H a o' := by
      have m : ∀ {ds vs}, Reps g w ds vs → Reps g (w.unhold w0) ds vs := fun {ds vs} r => Reps.cast (w := w) (w' := w.unhold w0) rfl rfl r
      cases o' with
      | lst l' => obtain ⟨f, vs, e, r⟩ := x; exact ⟨f, vs, e, m r⟩
      | dic ks l' => obtain ⟨f, vs, e, k, r⟩ := x; exact ⟨f, vs, e, k, m r⟩
      | ins c fs => obtain ⟨f, C, dx, fvs, k, e, r⟩ := x; exact ⟨f, C, dx, fvs, k, e, r.1, m r.2⟩
      | gone => exact x
    exact ⟨a, m, x'.mono l1 (fun z => by show upd w.F p o a = none; rw [upd_ne ha]; exact z) fun _ z => z⟩
  · have q : w0.fr a = some v := q
    have ha : a ≠ p := ne_of_none q h0
    obtain ⟨k1, k2, k3⟩ := s.fr a v (l.fr a v q)
    exact ⟨k1, by show upd w.F p o a = none; rw [upd_ne ha]; exact k2, k3⟩
  · have q : upd w.F p o a = some v := q
    by_cases ha : a = p
    · subst ha
      rw [upd_same] at q
      cases q
      intro ps z
      subst z
      exact h3.2
    · rw [upd_ne ha] at q
      exact s.nt a v q
/-- tables may grow -/
theorem SimH.extN {H' : Hp} (s : SimH g w h H) (e : LamX.ExtN H H') (t : LamX.Tabs g.T H') : SimH g w h H' := by
  refine ⟨fun a o q => e a o (s.sub a o q) (s.nt a o q), s.len, s.nd, fun n o q => ?_, fun a o q => ?_, t, s.nt⟩
  · obtain ⟨a, m, x⟩ := s.ob n o q
    refine ⟨a, m, ?_⟩
    cases o with
    | lst l' => obtain ⟨f, vs, e1, r⟩ := x; exact ⟨f, vs, e _ _ e1 (fun ps z => by cases z), r⟩
    | dic ks l' => obtain ⟨f, vs, e1, k, r⟩ := x; exact ⟨f, vs, e _ _ e1 (fun ps z => by cases z), k, r⟩
    | ins c fs => obtain ⟨f, C, dx, fvs, k, e1, r⟩ := x; exact ⟨f, C, dx, fvs, k, e _ _ e1 (fun ps z => by cases z), r⟩
    | gone => obtain ⟨u, e1, n⟩ := x; exact ⟨u, e _ _ e1 n, n⟩
  · obtain ⟨k1, k2, k3, k4⟩ := s.fr a o q
    exact ⟨e _ _ k1 (fun ps z => by subst z; exact k4), k2, k3, k4⟩
/-- an unchanging thing that stands there comes to be known -/
theorem SimH.learn (s : SimH g w h H) {p : Addr} {o : HO} (hp : H p = some o) (ns : ¬ Sto o) (nt : ∀ ps, o ≠ .tbl ps) : Le w (w.add p o) ∧ SimH g (w.add p o) h H := by
  have l1 : Le w (w.add p o) := ⟨fun a u e => by
    show upd w.F p o a = some u
    by_cases ha : a = p
    · subst ha
      have := s.sub _ _ e
      rw [hp] at this; cases this
      exact upd_same
    · rw [upd_ne ha]; exact e, fun _ _ e => e, fun _ _ e => e⟩
  refine ⟨l1, fun a u e => ?_, s.len, s.nd, fun n o' q => ?_, fun a u q => ?_, s.tb, fun a u e => ?_⟩
  · have e : upd w.F p o a = some u := e
    by_cases ha : a = p
    · subst ha; rw [upd_same] at e; cases e; exact hp
    · rw [upd_ne ha] at e; exact s.sub a u e
  · obtain ⟨a, m, x⟩ := s.ob n o' q
    refine ⟨a, m, ?_⟩
    have hne : ∀ {u : HO}, H a = some u → Sto u → a ≠ p := fun {u} e1 su z => by
      subst z
      rw [hp] at e1; cases e1
      exact ns su
    have nF : a ≠ p → w.F a = none → (w.add p o).F a = none := fun ha z => by show upd w.F p o a = none; rw [upd_ne ha]; exact z
    cases o' with
    | lst l' => obtain ⟨f, vs, e1, r⟩ := x; exact ⟨nF (hne e1 trivial) f, vs, e1, Reps.mono l1 _ r⟩
    | dic ks l' => obtain ⟨f, vs, e1, k, r⟩ := x; exact ⟨nF (hne e1 trivial) f, vs, e1, k, Reps.mono l1 _ r⟩
    | ins c fs => obtain ⟨f, C, dx, fvs, k, e1, r⟩ := x; exact ⟨nF (hne e1 trivial) f, C, dx, fvs, k, e1, RepF.mono l1 r⟩
    | gone => exact x
  · obtain ⟨k1, k2, k3, k4⟩ := s.fr a u q
    have ha : a ≠ p := fun z => by
      subst z
      rw [hp] at k1; cases k1
      exact ns k4
    exact ⟨k1, by show upd w.F p o a = none; rw [upd_ne ha]; exact k2, k3, k4⟩
  · have e : upd w.F p o a = some u := e
    by_cases ha : a = p
    · subst ha; rw [upd_same] at e; cases e; exact nt
    · rw [upd_ne ha] at e; exact s.nt a u e
end
end ML
set_option Elab.async false
set_option linter.all false
set_option maxRecDepth 100000
set_option maxHeartbeats 2000000
set_option autoImplicit false
/-! M: what an expression, a statement is worth; the simple rules. -/
namespace ML
open PySem PySem.Spec PyProof.Rows L2

def Res.bind {α β : Type} (r : Res α) (k : α → MH → Res β) : Res β := match r with
  | .ok a h => k a h | .exc x h => .exc x h | .stuck => .stuck
/-- of a step that raises nothing -/
def Res.of {α : Type} (o : Option (α × MH)) : Res α := match o with
  | some (a, h) => .ok a h | none => .stuck
@[simp] theorem Res.bind_ok {α β : Type} (a : α) (h : MH) (k : α → MH → Res β) : (Res.ok a h).bind k = k a h := (rfl)
@[simp] theorem Res.bind_exc {α β : Type} (x : Exn) (h : MH) (k : α → MH → Res β) : (Res.exc x h : Res α).bind k = .exc x h := (rfl)
@[simp] theorem Res.bind_stuck {α β : Type} (k : α → MH → Res β) : (Res.stuck : Res α).bind k = .stuck := (rfl)
@[simp] theorem Res.of_some {α : Type} (a : α) (h : MH) : Res.of (some (a, h)) = .ok a h := (rfl)
@[simp] theorem Res.of_none {α : Type} : (Res.of none : Res α) = .stuck := (rfl)

/-- how an exception lies -/
def RepX (g : Gd) (w : Wd) (x : Exn) (cls : Value) (dd : Option Addr) : Prop :=
  ∃ C a fvs, g.cl[x.c]? = some C ∧ cls = .ref C ∧ dd = some a ∧ w.F a = some (.xd fvs) ∧ RepF g w x.fs fvs
theorem RepX.mono {g : Gd} {w w' : Wd} (l : Le w w') {x : Exn} {cls : Value} {dd : Option Addr} (h : RepX g w x cls dd) : RepX g w' x cls dd := by
  obtain ⟨C, a, fvs, h1, h2, h3, h4, h5⟩ := h
  exact ⟨C, a, fvs, h1, h2, h3, l.F _ _ h4, h5.mono l⟩
/-- what is known of slots beside the data: handed defs; the dict of the exception that is handled -/
structure Pn where
  sl : List (Nat × V)
  xi : Option (Addr × List (Str × D))
  lo : Option Wd := none
def pn0 : Pn := ⟨[], none, none⟩
structure PnOk (g : Gd) (w : Wd) (p : Pn) (σ : L2.St) : Prop where
  sl : ∀ q ∈ p.sl, σ[q.1]? = some (some q.2)
  xi : ∀ d fs, p.xi = some (d, fs) → ∃ fvs, w.F d = some (.xd fvs) ∧ RepF g w fs fvs
  lo : ∀ w0, p.lo = some w0 → Le w0 w
theorem PnOk.mono {g : Gd} {w w' : Wd} {p : Pn} {σ : L2.St} (l : Le w w') (h : PnOk g w p σ) : PnOk g w' p σ :=
  ⟨h.sl, fun d fs e => let ⟨fvs, a, b⟩ := h.xi d fs e; ⟨fvs, l.F _ _ a, b.mono l⟩, fun w0 e => (h.lo w0 e).trans l⟩
theorem PnOk.zero {g : Gd} {w : Wd} {σ : L2.St} : PnOk g w pn0 σ := ⟨fun _ h => (by cases h), fun _ _ h => (by cases h), fun _ h => (by cases h)⟩
structure Sm (g : Gd) (w : Wd) (ds : Sl) (σ : L2.St) (h : MH) (H : Hp) (p : Pn) : Prop where
  s : SimS g w ds σ
  h : SimH g w h H
  p : PnOk g w p σ
theorem Sm.at_ {g : Gd} {w w' : Wd} {ds : Sl} {σ : L2.St} {h h' : MH} {H H' : Hp} {p : Pn} (x : Sm g w ds σ h H p) (l : Le w w') (y : SimH g w' h' H') : Sm g w' ds σ h' H' p := ⟨x.s.mono l, y, x.p.mono l⟩

section
variable {α β γ δ : Type}
def PostG (g : Gd) (R : Wd → α → β → Prop) (W : WX) (w : Wd) (σ : L2.St) (r : Res α) (Q : β → Hp → Prop) : Prop := match r with
  | .ok d h' => ∀ w' v H', Le w w' → SimH g w' h' H' → R w' d v → Q v H'
  | .exc x h' => ∀ w' cls dd H', Le w w' → SimH g w' h' H' → RepX g w' x cls dd → W cls dd σ H'
  | .stuck => False
def RdG (g : Gd) (R : Wd → α → β → Prop) (W : WX) (p : Pn) (m : Sl → MH → Res α) : L2.St → Hp → (β → Hp → Prop) → Prop := fun σ H Q =>
  ∃ w ds h, Sm g w ds σ h H p ∧ PostG g R W w σ (m ds h) Q
variable {g : Gd} {R : Wd → α → β → Prop} {R2 : Wd → γ → δ → Prop} {W : WX} {p : Pn} {w w' : Wd} {σ : L2.St} {H : Hp}
theorem PostG.mono {r : Res α} {Q : β → Hp → Prop} (l : Le w w') (h : PostG g R W w σ r Q) : PostG g R W w' σ r Q := by
  cases r with
  | ok d h' => exact fun w2 v H' l2 s r => h w2 v H' (l.trans l2) s r
  | exc x h' => exact fun w2 c d H' l2 s r => h w2 c d H' (l.trans l2) s r
  | stuck => exact h
theorem RdG.mk {m : Sl → MH → Res α} {Q : β → Hp → Prop} {ds : Sl} {h : MH} (s : Sm g w ds σ h H p) (q : PostG g R W w σ (m ds h) Q) : RdG g R W p m σ H Q := ⟨w, ds, h, s, q⟩
theorem PostG.bind {r : Res α} {k : α → MH → Res γ} {Q : δ → Hp → Prop} {Q' : β → Hp → Prop} {ds : Sl} {h : MH} (s : Sm g w ds σ h H p) (q : PostG g R2 W w σ (r.bind k) Q)
    (f : ∀ w1 a h1 v H1, Le w w1 → Sm g w1 ds σ h1 H1 p → R w1 a v → PostG g R2 W w1 σ (k a h1) Q → Q' v H1) : PostG g R W w σ r Q' := by
  cases r with
  | ok a h' =>
    simp only [Res.bind_ok] at q
    exact fun w' v H' l s' r => f w' a h' v H' l (s.at_ l s') r (q.mono l)
  | exc x h' => simp only [Res.bind_exc] at q; exact q
  | stuck => simp only [Res.bind_stuck] at q; exact q
theorem RdG.imp {m : Sl → MH → Res α} {Q Q' : β → Hp → Prop} (h : RdG g R W p m σ H Q) (f : ∀ v H, Q v H → Q' v H) : RdG g R W p m σ H Q' := by
  obtain ⟨w, ds, h, s, q⟩ := h
  refine ⟨w, ds, h, s, ?_⟩
  cases e : m ds h with
  | ok a h' => rw [e] at q; exact fun w' v H' l s' r => f _ _ (q w' v H' l s' r)
  | exc x h' => rw [e] at q; exact q
  | stuck => rw [e] at q; exact q
end
abbrev RdE (g : Gd) (W : WX) (p : Pn) (m : ME) : TE := RdG g (Rep g) W p m
abbrev RdA (g : Gd) (W : WX) (p : Pn) (m : MA) : TA := RdG g (Reps g) W p m
abbrev MT := Sl → MH → Res Bool
abbrev RdT (g : Gd) (W : WX) (p : Pn) (m : MT) : TT := RdG g (fun _ (a b : Bool) => a = b) W p m
def PostS (g : Gd) (W : WX) (p : Pn) (w : Wd) (r : SR) (D : Ends) : Prop := match r with
  | .next ds' h' => ∀ w' σ' H', Le w w' → Sm g w' ds' σ' h' H' p → D.nx σ' H'
  | .ret d h' => ∀ w' v H', Le w w' → SimH g w' h' H' → Rep g w' d v → D.rt v H'
  | .brk ds' h' => ∀ w' σ' H', Le w w' → Sm g w' ds' σ' h' H' p → D.bk σ' H'
  | .cont ds' h' => ∀ w' σ' H', Le w w' → Sm g w' ds' σ' h' H' p → D.ct σ' H'
  | .exc x ds' h' => ∀ w' σ' cls dd H', Le w w' → Sm g w' ds' σ' h' H' p → RepX g w' x cls dd → W cls dd σ' H'
  | .stuck => False
def RdS (g : Gd) (W : WX) (p : Pn) (m : MS) : TS := fun D σ H => ∃ w ds h, Sm g w ds σ h H p ∧ PostS g W p w (m ds h) D
theorem PostS.mono {g : Gd} {W : WX} {p : Pn} {w w' : Wd} {r : SR} {D : Ends} (l : Le w w') (h : PostS g W p w r D) : PostS g W p w' r D := by
  cases r with
  | next ds h' => exact fun w2 s H' l2 x => h w2 s H' (l.trans l2) x
  | ret d h' => exact fun w2 s H' l2 x r => h w2 s H' (l.trans l2) x r
  | brk ds h' => exact fun w2 s H' l2 x => h w2 s H' (l.trans l2) x
  | cont ds h' => exact fun w2 s H' l2 x => h w2 s H' (l.trans l2) x
  | exc x ds h' => exact fun w2 s c d H' l2 x r => h w2 s c d H' (l.trans l2) x r
  | stuck => exact h

theorem PE.imp {X : Cx} {e : Expr} {t t' : TE} (h : PE X e t) (f : ∀ σ H Q, t' σ H Q → t σ H Q) : PE X e t' := ⟨fun pins s σ H Q I q => h.run pins s σ H Q I (f σ H Q q)⟩
theorem PT.imp {X : Cx} {e : Expr} {t t' : TT} (h : PT X e t) (f : ∀ σ H Q, t' σ H Q → t σ H Q) : PT X e t' := ⟨fun pins s σ H Q I q => h.run pins s σ H Q I (f σ H Q q)⟩
theorem PW.imp {X : Cx} {e : Expr} {t t' : TT} (h : PW X e t) (f : ∀ σ H Q, t' σ H Q → t σ H Q) : PW X e t' := ⟨fun wh pins s σ H Q I q => h.run wh pins s σ H Q I (f σ H Q q)⟩
theorem PA.imp {X : Cx} {e : List Expr} {t t' : TA} (h : PA X e t) (f : ∀ σ H Q, t' σ H Q → t σ H Q) : PA X e t' := ⟨fun pos pins s σ H Q I q => h.run pos pins s σ H Q I (f σ H Q q)⟩
theorem PS.imp {X : Cx} {e : Stmt} {t t' : TS} (h : PS X e t) (f : ∀ D σ H, t' D σ H → t D σ H) : PS X e t' := ⟨fun pins s σ H D I q => h.run pins s σ H D I (f D σ H q)⟩
theorem PSs.imp {X : Cx} {e : List Stmt} {t t' : TS} (h : PSs X e t) (f : ∀ D σ H, t' D σ H → t D σ H) : PSs X e t' := ⟨fun pins s σ H D I q => h.run pins s σ H D I (f D σ H q)⟩

/-! ### names, constants -/
def mVar (i : Nat) : ME := fun ds h => match ds[i]? with
  | some (some d) => .ok d h | _ => .stuck
def mC (d : D) : ME := fun _ h => .ok d h
section
variable {X : Cx} {g : Gd} {W : WX} {p : Pn} {pos : Pos}
theorem me_var (i : Nat) {x : Str} (hN : X.N[i]? = some x := by rfl) (hv : Vis X.env.scope x := by first | exact Or.inl rfl | exact Or.inr (Or.inl rfl) | exact Or.inr (Or.inr rfl)) (hd : (x == ("__debug__" : Str)) = false := by decide)
    (hcd : (x == ("__classdict__" : Str)) = false := by decide) : PE X (.Name x pos) (RdE g W p (mVar i)) := by
  refine PE.imp (pe_var hN hv hd hcd) fun σ H Q ⟨w, ds, h, s, q⟩ => ?_
  unfold mVar at q
  split at q
  · rename_i d e
    obtain ⟨v, e1, r⟩ := s.s.2 i d e
    exact ⟨v, e1, q w v H (Le.refl w) s.h r⟩
  · exact q.elim
/-- a constant by its value -/
theorem me_const {e : Expr} {v : V} {d : D} (h : PE X e (tC v)) (r : ∀ w, Rep g w d v) : PE X e (RdE g W p (mC d)) :=
  PE.imp h fun σ H Q ⟨w, ds, hh, s, q⟩ => q w v H (Le.refl w) s.h (r w)
theorem me_int {i j} : PE X (.Constant (.int i) j pos) (RdE g W p (mC (.int i))) := me_const pe_int fun _ => by simp [Rep]
theorem me_bl {b j} : PE X (.Constant (.bool b) j pos) (RdE g W p (mC (.bl b))) := me_const pe_bl fun _ => by simp [Rep]
theorem me_non {j} : PE X (.Constant .none j pos) (RdE g W p (mC .non)) := me_const pe_non fun _ => by simp [Rep]
theorem me_str {x j} : PE X (.Constant (.str x) j pos) (RdE g W p (mC (.str x))) := me_const pe_str fun _ => by simp [Rep]
/-- a constant of the module, a built-in type -/
theorem me_glob {x : Str} {v : V} {u : Value} {d : D} (hg : Gl X x) (hm : X.mg x = some u) (r : RelV v u) (rd : ∀ w, Rep g w d v) (hd : (x == ("__debug__" : Str)) = false := by decide) : PE X (.Name x pos) (RdE g W p (mC d)) := me_const (pe_glob hg hm r hd) rd
theorem me_bltn {x : Str} {n : String} {u : Value} (hg : Gl X x) (hm : X.mg x = none) (hv : bootBuiltins x = some u) (r : RelV (.ty n) u) (hn : x ≠ "__name__" := by decide) (hd : (x == ("__debug__" : Str)) = false := by decide) :
    PE X (.Name x pos) (RdE g W p (mC (.ty n))) := me_const (pe_bltn hg hm hv r hn hd) fun _ => by simp [Rep]
end

/-! ### operators by values -/
/-- a step on values: nothing is raised -/
abbrev Vr := Option (D × MH)
def PostV (g : Gd) (w : Wd) (r : Vr) (Q : VK) : Prop := match r with
  | some (d, h') => ∀ w' v H', Le w w' → SimH g w' h' H' → Rep g w' d v → Q v H'
  | none => False
abbrev O2 := D → D → MH → Vr
def rO2 (g : Gd) (m : O2) : R2 := fun x y H Q => ∃ w h a b, SimH g w h H ∧ Rep g w a x ∧ Rep g w b y ∧ PostV g w (m a b h) Q
def OpM (X : Cx) (g : Gd) (f : Value → Value → Sem Value) (m : O2) : Prop := OpR X f (rO2 g m)
def mBin (f : O2) (ma mb : ME) : ME := fun ds h => (ma ds h).bind fun a h1 => (mb ds h1).bind fun b h2 => Res.of (f a b h2)
theorem PostV.of {g : Gd} {W : WX} {w : Wd} {σ : L2.St} {r : Vr} {Q : VK} (h : PostG g (Rep g) W w σ (Res.of r) Q) : PostV g w r Q := by
  cases r with
  | none => exact h
  | some q => exact h
section
variable {X : Cx} {g : Gd} {W : WX} {p : Pn} {pos : Pos} {a b c : Expr} {ma mb mc : ME}
theorem me_bin {op : Operator} {f : O2} (ho : OpM X g (binaryOp op) f) (ha : PE X a (RdE g W p ma)) (hb : PE X b (RdE g W p mb)) : PE X (.BinOp a op b pos) (RdE g W p (mBin f ma mb)) := by
  refine PE.imp (pe_op ho ha hb) fun σ H Q ⟨w, ds, h, s, q⟩ => ?_
  refine RdG.mk s (PostG.bind s q fun w1 d h1 x H1 l1 s1 r1 q1 => ?_)
  refine RdG.mk s1 (PostG.bind s1 q1 fun w2 e h2 y H2 l2 s2 r2 q2 => ?_)
  exact ⟨w2, h2, d, e, s2.h, r1.mono l2, r2, PostV.of q2⟩

theorem me_cmp {op : CmpOp} {f : O2} (ho : OpM X g (compareOp op) f) (ha : PE X a (RdE g W p ma)) (hb : PE X b (RdE g W p mb)) (hm : behindInMarks op b = false := by first | exact nomark _ | rfl | with_unfolding_all rfl) : PE X (.Compare a [op] [b] pos) (RdE g W p (mBin f ma mb)) := by
  refine PE.imp (pe_cmpR ho ha hb hm) fun σ H Q ⟨w, ds, h, s, q⟩ => ?_
  refine RdG.mk s (PostG.bind s q fun w1 d h1 x H1 l1 s1 r1 q1 => ?_)
  refine RdG.mk s1 (PostG.bind s1 q1 fun w2 e h2 y H2 l2 s2 r2 q2 => ?_)
  exact ⟨w2, h2, d, e, s2.h, r1.mono l2, r2, PostV.of q2⟩
def onBl {α : Type} (d : D) (k : Bool → Res α) : Res α := match d with
  | .bl b => k b | _ => .stuck
@[simp] theorem onBl_bl {α : Type} (b : Bool) (k : Bool → Res α) : onBl (.bl b) k = k b := (rfl)
/-- a value that is a bool, as a test -/
def mTb (m : ME) : MT := fun ds h => (m ds h).bind fun d h1 => onBl d fun b => .ok b h1
theorem Rep.bl {w : Wd} {b : Bool} {v : V} (r : Rep g w (.bl b) v) : v = .bl b := by simpa only [Rep] using r
theorem RdT.tb {ma : ME} {σ : L2.St} {H : Hp} {Q : Bool → Hp → Prop} (h : RdT g W p (mTb ma) σ H Q) : tB (RdE g W p ma) σ H Q := by
  obtain ⟨w, ds, h, s, q⟩ := h
  refine RdG.mk s (PostG.bind s q fun w1 d h1 x H1 l1 s1 r1 q1 => ?_)
  cases d with
  | bl c => exact ⟨c, r1.bl, q1 w1 c H1 (Le.refl _) s1.h rfl⟩
  | _ => exact q1.elim
theorem mt_cmp {op : CmpOp} {f : O2} (ho : OpM X g (compareOp op) f) (ha : PE X a (RdE g W p ma)) (hb : PE X b (RdE g W p mb)) (hm : behindInMarks op b = false := by first | exact nomark _ | rfl | with_unfolding_all rfl) : PT X (.Compare a [op] [b] pos) (RdT g W p (mTb (mBin f ma mb))) := by
  refine PT.imp (pt_cmpR ho ha hb hm) fun σ H Q h => ?_
  obtain ⟨w, ds, h, s, q⟩ := RdT.tb h
  refine RdG.mk s (PostG.bind (R2 := Rep g) s (k := fun d h1 => (mb ds h1).bind fun b h2 => Res.of (f d b h2)) q fun w1 d h1 x H1 l1 s1 r1 q1 => ?_)
  refine RdG.mk s1 (PostG.bind s1 q1 fun w2 e h2 y H2 l2 s2 r2 q2 => ?_)
  exact ⟨w2, h2, d, e, s2.h, r1.mono l2, r2, PostV.of q2⟩
/-- a value's truth -/
def tru (d : D) (h : MH) : Option Bool := match d with
  | .non => some false | .bl b => some b | .int i => some (i != 0)
  | .str x => if x.length ≤ sizeLine then some ((x.length : Int) != 0) else none
  | .tup l => some (!l.isEmpty) | .lst l => some (!l.isEmpty) | .dic ks _ => some (!ks.isEmpty)
  | .ref n => (match h[n]? with | some (.lst l) => some (!l.isEmpty) | some (.dic ks _) => some (!ks.isEmpty) | _ => none)
  | _ => none
theorem Reps.isEmpty {w : Wd} {ds : List D} {vs : List V} (h : Reps g w ds vs) : vs.isEmpty = ds.isEmpty := by
  have := h.length
  cases ds <;> cases vs <;> simp_all
theorem tru_ok {w : Wd} {h : MH} {H : Hp} {d : D} {v : V} {k : Bool} (s : SimH g w h H) (r : Rep g w d v) (t : tru d h = some k) : TruV g.K v H k := by
  have ke : ∀ {kvs : List (Key × V)} {ks : List Key}, kvs.map (·.1) = ks → kvs.isEmpty = ks.isEmpty := fun {kvs ks} e => by
    subst e; cases kvs <;> rfl
  cases d with
  | non => simp only [Rep] at r; subst r; simp [tru] at t; simp [TruV, t]
  | bl b => simp only [Rep] at r; subst r; simp [tru] at t; simp [TruV, t]
  | int i => simp only [Rep] at r; subst r; simp only [tru, Option.some.injEq] at t; simp [TruV, ← t]
  | str x =>
    simp only [Rep] at r; subst r; simp only [tru] at t
    split at t
    · rename_i hl; simp only [Option.some.injEq] at t; exact ⟨hl, t.symm⟩
    · cases t
  | tup l =>
    simp only [Rep] at r; obtain ⟨a, vs, rfl, e, r⟩ := r
    simp only [tru, Option.some.injEq] at t
    exact .inr (.inl ⟨vs, SqT.mono s.sub e.sq, by rw [← t, r.isEmpty]⟩)
  | lst l =>
    simp only [Rep] at r; obtain ⟨a, vs, rfl, e, r⟩ := r
    simp only [tru, Option.some.injEq] at t
    exact .inl ⟨vs, SqL.of (s.sub _ _ e), by rw [← t, r.isEmpty]⟩
  | dic ks l =>
    simp only [Rep] at r; obtain ⟨a, kvs, rfl, e, k, r⟩ := r
    simp only [tru, Option.some.injEq] at t
    exact .inr (.inr ⟨kvs, s.sub _ _ e, by rw [← t, ke k]⟩)
  | ref n =>
    simp only [Rep] at r; obtain ⟨a, rfl, m⟩ := r
    obtain ⟨o, ho, x⟩ := s.at_ m
    simp only [tru, ho] at t
    cases o with
    | lst l =>
      obtain ⟨_, vs, e, r⟩ := x
      simp only [Option.some.injEq] at t
      exact .inl ⟨vs, SqL.of e, by rw [← t, r.isEmpty]⟩
    | dic ks l =>
      obtain ⟨_, kvs, e, k, r⟩ := x
      simp only [Option.some.injEq] at t
      exact .inr (.inr ⟨kvs, e, by rw [← t, ke k]⟩)
    | _ => cases t
  | _ => cases t
def onSome {α β : Type} (o : Option α) (k : α → Res β) : Res β := match o with
  | some a => k a | none => .stuck
@[simp] theorem onSome_some {α β : Type} (a : α) (k : α → Res β) : onSome (some a) k = k a := (rfl)
@[simp] theorem onSome_none {α β : Type} (k : α → Res β) : onSome none k = .stuck := (rfl)
def mTr (m : ME) : MT := fun ds h => (m ds h).bind fun d h1 => onSome (tru d h1) fun b => .ok b h1
theorem mt_tr (hk : X.K = g.K) (ha : PE X a (RdE g W p ma)) (he : ∀ whole, isTrue a X.env whole = (do let v ← whole; standAt a.pos; holding [v] (truthy v)) := by intro _; rfl) : PT X a (RdT g W p (mTr ma)) := by
  refine PT.imp (pt_truth ha he) fun σ H Q ⟨w, ds, h, s, q⟩ => ?_
  refine RdG.mk s (PostG.bind s q fun w1 d h1 x H1 l1 s1 r1 q1 => ?_)
  cases e : tru d h1 with
  | none => rw [e] at q1; exact q1.elim
  | some c =>
    rw [e] at q1
    exact ⟨c, by rw [hk]; exact tru_ok s1.h r1 e, q1 w1 c H1 (Le.refl _) s1.h rfl⟩
/-! ### chains, and, or, not, .. if .. else .. -/
def mChain (f f' : O2) (ma mb mc : ME) : ME := fun ds h => (ma ds h).bind fun a h1 => (mb ds h1).bind fun b h2 => (Res.of (f a b h2)).bind fun z h3 => onBl z fun k =>
  if k then (mc ds h3).bind fun c h4 => Res.of (f' b c h4) else .ok (.bl false) h3
theorem RdE.chain {f f' : O2} {σ : L2.St} {H : Hp} {Q : VK} (h : RdE g W p (mChain f f' ma mb mc) σ H Q) : tChain (rO2 g f) (rO2 g f') (RdE g W p ma) (RdE g W p mb) (RdE g W p mc) σ H Q := by
  obtain ⟨w, ds, h, s, q⟩ := h
  refine RdG.mk s (PostG.bind s q fun w1 d h1 x H1 l1 s1 r1 q1 => ?_)
  refine RdG.mk s1 (PostG.bind s1 q1 fun w2 e h2 y H2 l2 s2 r2 q2 => ?_)
  refine ⟨w2, h2, d, e, s2.h, r1.mono l2, r2, PostV.of (PostG.bind (R := Rep g) s2 q2 fun w3 z h3 vz H3 l3 s3 r3 q3 => ?_)⟩
  cases z with
  | bl k =>
    refine ⟨k, r3.bl, ?_⟩
    cases k with
    | true =>
      simp only [onBl_bl, if_true] at q3
      rw [if_pos rfl]
      refine RdG.mk s3 (PostG.bind s3 q3 fun w4 c h4 vc H4 l4 s4 r4 q4 => ?_)
      exact ⟨w4, h4, e, c, s4.h, (r2.mono l3).mono l4, r4, PostV.of q4⟩
    | false =>
      simp only [onBl_bl] at q3
      rw [if_neg Bool.false_ne_true]
      exact q3 w3 (.bl false) H3 (Le.refl _) s3.h (by simp [Rep])
  | _ => exact q3.elim
theorem me_chain {op op' : CmpOp} {f f' : O2} (ho : OpM X g (compareOp op) f) (ho' : OpM X g (compareOp op') f') (ha : PE X a (RdE g W p ma)) (hb : PE X b (RdE g W p mb)) (hc : PE X c (RdE g W p mc))
    (hm : lastMarks [op, op'] [b, c] = false := by with_unfolding_all rfl) : PE X (.Compare a [op, op'] [b, c] pos) (RdE g W p (mChain f f' ma mb mc)) :=
  PE.imp (pe_chain ho ho' ha hb hc hm) fun σ H Q h => RdE.chain h
theorem mt_chain {op op' : CmpOp} {f f' : O2} (ho : OpM X g (compareOp op) f) (ho' : OpM X g (compareOp op') f') (ha : PE X a (RdE g W p ma)) (hb : PE X b (RdE g W p mb)) (hc : PE X c (RdE g W p mc))
    (hm : lastMarks [op, op'] [b, c] = false := by with_unfolding_all rfl) : PT X (.Compare a [op, op'] [b, c] pos) (RdT g W p (mTb (mChain f f' ma mb mc))) :=
  PT.imp (pt_chain ho ho' ha hb hc hm) fun σ H Q h => RdE.chain (RdT.tb h)
variable {rest : List Expr} {ta tb : MT}
def mAndT (ta tb : MT) : MT := fun ds h => (ta ds h).bind fun c h1 => if c then tb ds h1 else .ok false h1
def mOrT (ta tb : MT) : MT := fun ds h => (ta ds h).bind fun c h1 => if c then .ok true h1 else tb ds h1
def mNotT (ta : MT) : MT := fun ds h => (ta ds h).bind fun c h1 => .ok (!c) h1
theorem mw_and1 (ha : PT X a (RdT g W p ta)) : PW X (.BoolOp .And [a] pos) (RdT g W p ta) := pw_and1 ha
theorem mw_or1 (ha : PT X a (RdT g W p ta)) : PW X (.BoolOp .Or [a] pos) (RdT g W p ta) := pw_or1 ha
theorem mw_and (ha : PT X a (RdT g W p ta)) (hb : PW X (.BoolOp .And (b :: rest) pos) (RdT g W p tb)) : PW X (.BoolOp .And (a :: b :: rest) pos) (RdT g W p (mAndT ta tb)) := by
  refine PW.imp (pw_and ha hb) fun σ H Q ⟨w, ds, h, s, q⟩ => ?_
  refine RdG.mk s (PostG.bind s q fun w1 d h1 x H1 l1 s1 r1 q1 => ?_)
  subst r1
  cases d with
  | true => exact RdG.mk s1 q1
  | false => exact q1 w1 false H1 (Le.refl _) s1.h rfl
theorem mw_or (ha : PT X a (RdT g W p ta)) (hb : PW X (.BoolOp .Or (b :: rest) pos) (RdT g W p tb)) : PW X (.BoolOp .Or (a :: b :: rest) pos) (RdT g W p (mOrT ta tb)) := by
  refine PW.imp (pw_or ha hb) fun σ H Q ⟨w, ds, h, s, q⟩ => ?_
  refine RdG.mk s (PostG.bind s q fun w1 d h1 x H1 l1 s1 r1 q1 => ?_)
  subst r1
  cases d with
  | true => exact q1 w1 true H1 (Le.refl _) s1.h rfl
  | false => exact RdG.mk s1 q1
theorem mt_not (ha : PT X a (RdT g W p ta)) : PT X (.UnaryOp .Not a pos) (RdT g W p (mNotT ta)) := by
  refine PT.imp (pt_not ha) fun σ H Q ⟨w, ds, h, s, q⟩ => ?_
  refine RdG.mk s (PostG.bind s q fun w1 d h1 x H1 l1 s1 r1 q1 => ?_)
  subst r1
  exact q1 w1 (!d) H1 (Le.refl _) s1.h rfl
/-- .. as values, by truth -/
def mAnd (ma mb : ME) : ME := fun ds h => (ma ds h).bind fun a h1 => onSome (tru a h1) fun k => if k then mb ds h1 else .ok a h1
def mOr (ma mb : ME) : ME := fun ds h => (ma ds h).bind fun a h1 => onSome (tru a h1) fun k => if k then .ok a h1 else mb ds h1
def mNot (ma : ME) : ME := fun ds h => (ma ds h).bind fun a h1 => onSome (tru a h1) fun k => .ok (.bl (!k)) h1
theorem me_one {op} (h : PE X a (RdE g W p ma)) : PE X (.BoolOp op [a] pos) (RdE g W p ma) := pe_one h
theorem me_and (hk : X.K = g.K) (ha : PE X a (RdE g W p ma)) (hb : PE X (.BoolOp .And (b :: rest) pos) (RdE g W p mb)) : PE X (.BoolOp .And (a :: b :: rest) pos) (RdE g W p (mAnd ma mb)) := by
  refine PE.imp (pe_andT ha hb) fun σ H Q ⟨w, ds, h, s, q⟩ => ?_
  refine RdG.mk s (PostG.bind s q fun w1 d h1 x H1 l1 s1 r1 q1 => ?_)
  cases e : tru d h1 with
  | none => rw [e] at q1; exact q1.elim
  | some k =>
    rw [e] at q1
    refine ⟨k, by rw [hk]; exact tru_ok s1.h r1 e, ?_⟩
    cases k with
    | true => exact RdG.mk s1 q1
    | false => exact q1 w1 x H1 (Le.refl _) s1.h r1
theorem me_or (hk : X.K = g.K) (ha : PE X a (RdE g W p ma)) (hb : PE X (.BoolOp .Or (b :: rest) pos) (RdE g W p mb)) : PE X (.BoolOp .Or (a :: b :: rest) pos) (RdE g W p (mOr ma mb)) := by
  refine PE.imp (pe_orT ha hb) fun σ H Q ⟨w, ds, h, s, q⟩ => ?_
  refine RdG.mk s (PostG.bind s q fun w1 d h1 x H1 l1 s1 r1 q1 => ?_)
  cases e : tru d h1 with
  | none => rw [e] at q1; exact q1.elim
  | some k =>
    rw [e] at q1
    refine ⟨k, by rw [hk]; exact tru_ok s1.h r1 e, ?_⟩
    cases k with
    | true => exact q1 w1 x H1 (Le.refl _) s1.h r1
    | false => exact RdG.mk s1 q1
theorem me_not (hk : X.K = g.K) (ha : PE X a (RdE g W p ma)) : PE X (.UnaryOp .Not a pos) (RdE g W p (mNot ma)) := by
  refine PE.imp (pe_notT ha) fun σ H Q ⟨w, ds, h, s, q⟩ => ?_
  refine RdG.mk s (PostG.bind s q fun w1 d h1 x H1 l1 s1 r1 q1 => ?_)
  cases e : tru d h1 with
  | none => rw [e] at q1; exact q1.elim
  | some k =>
    rw [e] at q1
    exact ⟨k, by rw [hk]; exact tru_ok s1.h r1 e, q1 w1 (.bl (!k)) H1 (Le.refl _) s1.h (by simp [Rep])⟩
def mIf (t : MT) (ma mb : ME) : ME := fun ds h => (t ds h).bind fun c h1 => if c then ma ds h1 else mb ds h1
theorem me_if {t : MT} (hc : PT X c (RdT g W p t)) (ha : PE X a (RdE g W p ma)) (hb : PE X b (RdE g W p mb)) : PE X (.IfExp c a b pos) (RdE g W p (mIf t ma mb)) := by
  refine PE.imp (pe_ifExp hc ha hb) fun σ H Q ⟨w, ds, h, s, q⟩ => ?_
  refine RdG.mk s (PostG.bind s q fun w1 d h1 x H1 l1 s1 r1 q1 => ?_)
  subst r1
  cases d with
  | true => exact RdG.mk s1 q1
  | false => exact RdG.mk s1 q1
/-! ### argument lists, displays -/
def mNil : MA := fun _ h => .ok [] h
def mCons (ma : ME) (mr : MA) : MA := fun ds h => (ma ds h).bind fun a h1 => (mr ds h1).bind fun l h2 => .ok (a :: l) h2
variable {es : List Expr} {mes : MA}
theorem ma_nil : PA X [] (RdA g W p mNil) := PA.imp pa_nil fun σ H Q ⟨w, ds, h, s, q⟩ => q w [] H (Le.refl _) s.h .nil
theorem ma_cons (ha : PE X a (RdE g W p ma)) (hr : PA X es (RdA g W p mes)) (hs : starEach (a :: es) X.env = (false, eval a X.env) :: starEach es X.env := by rfl) : PA X (a :: es) (RdA g W p (mCons ma mes)) := by
  refine PA.imp (pa_cons ha hr hs) fun σ H Q ⟨w, ds, h, s, q⟩ => ?_
  refine RdG.mk s (PostG.bind s q fun w1 d h1 x H1 l1 s1 r1 q1 => ?_)
  refine RdG.mk s1 (PostG.bind s1 q1 fun w2 e h2 y H2 l2 s2 r2 q2 => ?_)
  exact q2 w2 (x :: y) H2 (Le.refl _) s2.h (.cons (r1.mono l2) r2)
def mTup (m : MA) : ME := fun ds h => (m ds h).bind fun l h1 => if l.length ≤ sizeLine then .ok (.tup l) h1 else .stuck
def mLst (m : MA) : ME := fun ds h => (m ds h).bind fun l h1 => if l.length ≤ sizeLine then .ok (.lst l) h1 else .stuck
/-- a list that comes to be changed -/
def mLstN (m : MA) : ME := fun ds h => (m ds h).bind fun l h1 => if l.length ≤ sizeLine then .ok (.ref h1.length) (h1 ++ [.lst l]) else .stuck
theorem tupled {w : Wd} {h : MH} {H : Hp} {l : List D} {vs : List V} {q : Addr} {o : Obj} (s : SimH g w h H) (r : Reps g w l vs) (hq : H q = none) (hd : o.dict = none) : Le w (w.add q (.frz o (.tup vs))) ∧ SimH g (w.add q (.frz o (.tup vs))) h (upd H q (.frz o (.tup vs))) ∧ Rep g (w.add q (.frz o (.tup vs))) (.tup l) (.ref q) := by
  have l1 : Le w (w.add q (.frz o (.tup vs))) := Le.add (s.free hq) _
  refine ⟨l1, s.add _ hq, ?_⟩
  simp only [Rep]
  exact ⟨q, vs, rfl, PTu.new hd, r.mono l1⟩
theorem listed {w : Wd} {h : MH} {H : Hp} {l : List D} {vs : List V} {q : Addr} (s : SimH g w h H) (r : Reps g w l vs) (hq : H q = none) : Le w (w.add q (.lst vs)) ∧ SimH g (w.add q (.lst vs)) h (upd H q (.lst vs)) ∧ Rep g (w.add q (.lst vs)) (.lst l) (.ref q) := by
  have l1 : Le w (w.add q (.lst vs)) := Le.add (s.free hq) _
  refine ⟨l1, s.add _ hq, ?_⟩
  simp only [Rep]
  exact ⟨q, vs, rfl, upd_same, r.mono l1⟩
theorem listedN {w : Wd} {h : MH} {H : Hp} {l : List D} {vs : List V} {q : Addr} (s : SimH g w h H) (r : Reps g w l vs) (hq : H q = none) : Le w (w.new q) ∧ SimH g (w.new q) (h ++ [.lst l]) (upd H q (.lst vs)) ∧ Rep g (w.new q) (.ref h.length) (.ref q) := by
  have l1 : Le w (w.new q) := Le.new w q
  refine ⟨l1, s.new hq (ext_upd hq) ⟨s.free hq, vs, upd_same, r.mono l1⟩, ?_⟩
  simp only [Rep]
  exact ⟨q, rfl, by show (w.mu ++ [q])[h.length]? = some q; rw [← s.len, List.getElem?_append_right (Nat.le_refl _)]; simp⟩
theorem me_tup {x1} (h : PA X es (RdA g W p mes)) : PE X (.Tuple es x1 pos) (RdE g W p (mTup mes)) := by
  refine PE.imp (pe_tupF h) fun σ H Q ⟨w, ds, h, s, q⟩ => ?_
  refine RdG.mk s (PostG.bind s q fun w1 d h1 x H1 l1 s1 r1 q1 => ?_)
  split at q1
  · rename_i hl
    refine ⟨by rw [← r1.length]; exact hl, fun a o ha hd => ?_⟩
    obtain ⟨l2, s2, r2⟩ := tupled s1.h r1 ha hd
    exact q1 _ _ _ l2 s2 r2
  · exact q1.elim
theorem me_lst (h : PA X es (RdA g W p mes)) : PE X (.List es pos) (RdE g W p (mLst mes)) := by
  refine PE.imp (pe_lst h) fun σ H Q ⟨w, ds, h, s, q⟩ => ?_
  refine RdG.mk s (PostG.bind s q fun w1 d h1 x H1 l1 s1 r1 q1 => ?_)
  split at q1
  · rename_i hl
    refine ⟨by rw [← r1.length]; exact hl, fun a ha => ?_⟩
    obtain ⟨l2, s2, r2⟩ := listed s1.h r1 ha
    exact q1 _ _ _ l2 s2 r2
  · exact q1.elim
theorem me_lstN (h : PA X es (RdA g W p mes)) : PE X (.List es pos) (RdE g W p (mLstN mes)) := by
  refine PE.imp (pe_lst h) fun σ H Q ⟨w, ds, h, s, q⟩ => ?_
  refine RdG.mk s (PostG.bind s q fun w1 d h1 x H1 l1 s1 r1 q1 => ?_)
  split at q1
  · rename_i hl
    refine ⟨by rw [← r1.length]; exact hl, fun a ha => ?_⟩
    obtain ⟨l2, s2, r2⟩ := listedN s1.h r1 ha
    exact q1 _ _ _ l2 s2 r2
  · exact q1.elim
end
end ML
set_option Elab.async false
set_option linter.all false
set_option maxRecDepth 100000
set_option maxHeartbeats 2000000
set_option autoImplicit false
/-! M: statements, targets, defs, methods. -/
namespace ML
open PySem PySem.Spec PyProof.Rows L2

def lift {α : Type} (r : Res α) (ds : Sl) (k : α → MH → SR) : SR := match r with
  | .ok a h => k a h | .exc x h => .exc x ds h | .stuck => .stuck
@[simp] theorem lift_ok {α : Type} (a : α) (h : MH) (ds : Sl) (k : α → MH → SR) : lift (.ok a h) ds k = k a h := (rfl)
@[simp] theorem lift_exc {α : Type} (x : Exn) (h : MH) (ds : Sl) (k : α → MH → SR) : lift (.exc x h : Res α) ds k = .exc x ds h := (rfl)
@[simp] theorem lift_stuck {α : Type} (ds : Sl) (k : α → MH → SR) : lift (.stuck : Res α) ds k = .stuck := (rfl)
theorem PostS.lift {α β : Type} {g : Gd} {R : Wd → α → β → Prop} {W : WX} {p : Pn} {w : Wd} {σ : L2.St} {H : Hp} {r : Res α} {k : α → MH → SR} {D : Ends} {Q' : β → Hp → Prop} {ds : Sl} {h : MH} (s : Sm g w ds σ h H p) (q : PostS g W p w (ML.lift r ds k) D)
    (f : ∀ w1 a h1 v H1, Le w w1 → Sm g w1 ds σ h1 H1 p → R w1 a v → PostS g W p w1 (k a h1) D → Q' v H1) : PostG g R W w σ r Q' := by
  cases r with
  | ok a h' =>
    simp only [lift_ok] at q
    exact fun w' v H' l s' r => f w' a h' v H' l (s.at_ l s') r (q.mono l)
  | exc x h' => exact fun w' c d H' l s' r => q w' σ c d H' l (s.at_ l s') r
  | stuck => exact q

def mNext : MS := fun ds h => .next ds h
def mSeq (a b : MS) : MS := fun ds h => match a ds h with
  | .next ds1 h1 => b ds1 h1 | r => r
def mExpr (m : ME) : MS := fun ds h => lift (m ds h) ds fun _ h1 => .next ds h1
def mRet (m : ME) : MS := fun ds h => lift (m ds h) ds fun d h1 => .ret d h1
def mRetN : MS := fun _ h => .ret .non h
def mBrk : MS := fun ds h => .brk ds h
def mCont : MS := fun ds h => .cont ds h
def mIfS (t : MT) (a b : MS) : MS := fun ds h => lift (t ds h) ds fun c h1 => if c then a ds h1 else b ds h1
def mSet (i : Nat) (m : ME) : MS := fun ds h => lift (m ds h) ds fun d h1 => .next (ds.set i (some d)) h1

section
variable {X : Cx} {g : Gd} {W : WX} {p : Pn} {pos : Pos} {st : Stmt} {rest : List Stmt} {a b : MS} {e : Expr} {m : ME} {t : MT}
theorem ms_nil : PSs X [] (RdS g W p mNext) := PSs.imp pss_nil fun D σ H ⟨w, ds, h, s, q⟩ => q w σ H (Le.refl w) s
theorem ms_cons (h1 : PS X st (RdS g W p a)) (h2 : PSs X rest (RdS g W p b)) : PSs X (st :: rest) (RdS g W p (mSeq a b)) := by
  refine PSs.imp (pss_cons h1 h2) fun D σ H ⟨w, ds, h, s, q⟩ => ?_
  refine ⟨w, ds, h, s, ?_⟩
  unfold mSeq at q
  cases e : a ds h with
  | next ds1 h1 =>
    rw [e] at q
    exact fun w' σ' H' l s' => ⟨w', ds1, h1, s', PostS.mono l q⟩
  | ret d h1 => rw [e] at q; exact q
  | brk ds1 h1 => rw [e] at q; exact q
  | cont ds1 h1 => rw [e] at q; exact q
  | exc x ds1 h1 => rw [e] at q; exact q
  | stuck => rw [e] at q; exact q
theorem ms_one (h1 : PS X st (RdS g W p a)) : PSs X [st] (RdS g W p a) := pss_one h1
theorem ms_pass : PS X (.Pass pos) (RdS g W p mNext) := PS.imp ps_pass fun D σ H ⟨w, ds, h, s, q⟩ => q w σ H (Le.refl w) s
theorem ms_break : PS X (.Break pos) (RdS g W p mBrk) := PS.imp ps_break fun D σ H ⟨w, ds, h, s, q⟩ => q w σ H (Le.refl w) s
theorem ms_continue : PS X (.Continue pos) (RdS g W p mCont) := PS.imp ps_continue fun D σ H ⟨w, ds, h, s, q⟩ => q w σ H (Le.refl w) s
theorem ms_expr (he : PE X e (RdE g W p m)) (hs : swapsWith e none pos.line X.env = pure false := by rfl) : PS X (.Expr e pos) (RdS g W p (mExpr m)) := by
  refine PS.imp (ps_expr he hs) fun D σ H ⟨w, ds, h, s, q⟩ => ?_
  exact RdG.mk s (PostS.lift s q fun w1 d h1 x H1 l1 s1 r1 q1 => q1 w1 σ H1 (Le.refl _) s1)
theorem ms_ret (he : PE X e (RdE g W p m)) : PS X (.Return (some e) pos) (RdS g W p (mRet m)) := by
  refine PS.imp (ps_ret he) fun D σ H ⟨w, ds, h, s, q⟩ => ?_
  exact RdG.mk s (PostS.lift s q fun w1 d h1 x H1 l1 s1 r1 q1 => q1 w1 x H1 (Le.refl _) s1.h r1)
theorem ms_retN : PS X (.Return none pos) (RdS g W p mRetN) := PS.imp ps_retN fun D σ H ⟨w, ds, h, s, q⟩ => q w .non H (Le.refl w) s.h (by simp [Rep])
theorem ms_if {c : Expr} {sa sb : List Stmt} (hc : PT X c (RdT g W p t)) (ha : PSs X sa (RdS g W p a)) (hb : PSs X sb (RdS g W p b)) : PS X (.If c sa sb pos) (RdS g W p (mIfS t a b)) := by
  refine PS.imp (ps_if hc ha hb) fun D σ H ⟨w, ds, h, s, q⟩ => ?_
  refine RdG.mk s (PostS.lift s q fun w1 c h1 x H1 l1 s1 r1 q1 => ?_)
  subst r1
  cases c with
  | true => exact ⟨w1, ds, h1, s1, q1⟩
  | false => exact ⟨w1, ds, h1, s1, q1⟩
/-- slot i is not pinned -/
def Pn.no (p : Pn) (i : Nat) : Bool := p.sl.all fun q => q.1 != i
theorem PnOk.set {w : Wd} {σ : L2.St} (h : PnOk g w p σ) {i : Nat} (hp : p.no i = true) (o : Option V) : PnOk g w p (σ.set i o) :=
  ⟨fun q hq => by
    have hne : i ≠ q.1 := by
      have := List.all_eq_true.mp hp q hq
      intro e; subst e; simp at this
    rw [List.getElem?_set_ne hne]; exact h.sl q hq, h.xi, h.lo⟩
theorem Sm.set {w : Wd} {ds : Sl} {σ : L2.St} {h : MH} {H : Hp} (s : Sm g w ds σ h H p) {i : Nat} (hp : p.no i = true) {d : D} {v : V} (r : Rep g w d v) : Sm g w (ds.set i (some d)) (σ.set i (some v)) h H p :=
  ⟨s.s.set r, s.h, s.p.set hp _⟩
theorem Sm.drop {w : Wd} {ds : Sl} {σ : L2.St} {h : MH} {H : Hp} (s : Sm g w ds σ h H p) {i : Nat} (hp : p.no i = true) (o : Option V) : Sm g w (ds.set i none) (σ.set i o) h H p :=
  ⟨s.s.drop i o, s.h, s.p.set hp _⟩
theorem ms_set (i : Nat) {x : Str} {pos' : Pos} (hN : X.N.Nodup) (he : PE X e (RdE g W p m)) (hi : X.N[i]? = some x := by rfl) (hx : Loc X.env.scope x := by first | exact Or.inl rfl | exact Or.inr rfl) (hp : p.no i = true := by rfl) (hs : swapsWith e (some (.Name x pos')) pos.line X.env = pure false := by rfl) (hf : X.fn x = true ∨ X.env.scope.names.lookup x = some .local := by first | exact .inl rfl | exact .inr rfl | assumption) :
    PS X (.Assign [.Name x pos'] e pos) (RdS g W p (mSet i m)) := by
  refine PS.imp (ps_set hN hi hx he hs hf) fun D σ H ⟨w, ds, h, s, q⟩ => ?_
  exact RdG.mk s (PostS.lift s q fun w1 d h1 x H1 l1 s1 r1 q1 => q1 w1 _ H1 (Le.refl _) (s1.set hp r1))
end

/-! ### targets -/
theorem wipe_set {σ : L2.St} {i : Nat} {o : Option V} : ∀ {vs : List Nat}, i ∈ vs → wipe (σ.set i o) vs = wipe σ vs
  | [], h => by cases h
  | v :: vs, h => by
    unfold wipe
    by_cases hv : v = i
    · subst hv
      apply List.ext_getElem?
      intro j
      by_cases hj : v = j
      · subst hj
        simp [List.getElem?_set, wipe_length]
      · rw [List.getElem?_set_ne hj, List.getElem?_set_ne hj]
        by_cases hm : j ∈ vs
        · have e : ∀ τ : L2.St, τ.length = σ.length → (wipe τ vs)[j]? = if j < σ.length then some none else none := fun τ hl => by
            clear h
            induction vs with
            | nil => cases hm
            | cons u us ih =>
              unfold wipe
              by_cases hu : u = j
              · subst hu
                rw [List.getElem?_set]
                simp [wipe_length, hl]
              · rw [List.getElem?_set_ne hu]
                exact ih (by rcases List.mem_cons.mp hm with z | z; exact absurd z.symm hu; exact z)
          rw [e _ (by simp), e _ rfl]
        · rw [wipe_out hm, wipe_out hm, List.getElem?_set_ne hj]
    · have hm : i ∈ vs := by
        rcases List.mem_cons.mp h with z | z
        · exact absurd z.symm hv
        · exact z
      rw [wipe_set hm]
abbrev MGx (ι : Type) := ι → Sl → MH → Option (Sl × MH)
abbrev MG := MGx D
abbrev MGs := MGx (List D)
def PostT (g : Gd) (p : Pn) (w : Wd) (vs : List Nat) (σ : L2.St) (r : Option (Sl × MH)) (Q : L2.St → Hp → Prop) : Prop := match r with
  | some (ds', h') => ∀ w' σ' H', Le w w' → Sm g w' ds' σ' h' H' p → wipe σ' vs = wipe σ vs → Q σ' H' | none => False
/-- R: how what is stored lies; vs: the slots that may be written -/
def RdGt {ι : Type} (g : Gd) (p : Pn) (R : Wd → Hp → ι → V → Prop) (vs : List Nat) (m : MGx ι) : TG := fun v σ H Q => ∃ w ds h d, Sm g w ds σ h H p ∧ R w H d v ∧ PostT g p w vs σ (m d ds h) Q
abbrev rD (g : Gd) : Wd → Hp → D → V → Prop := fun w _ d v => Rep g w d v
/-- a tuple, just made -/
def rP (g : Gd) : Wd → Hp → List D → V → Prop := fun w H l v => ∃ a vs, v = .ref a ∧ SqT g.K H a vs ∧ Reps g w l vs
def RdTg (g : Gd) (p : Pn) (vs : List Nat) (m : MG) : TG := RdGt g p (rD g) vs m
def RdTgs (g : Gd) (p : Pn) (vs : List Nat) (m : MGs) : TGs := fun us σ H Q => ∃ w ds h l, Sm g w ds σ h H p ∧ Reps g w l us ∧ PostT g p w vs σ (m l ds h) Q
theorem PostT.mono {g : Gd} {p : Pn} {w w' : Wd} {vs : List Nat} {σ σ' : L2.St} {r : Option (Sl × MH)} {Q : L2.St → Hp → Prop} (l : Le w w') (e : wipe σ' vs = wipe σ vs) (h : PostT g p w vs σ r Q) : PostT g p w' vs σ' r Q := by
  cases r with
  | none => exact h
  | some q => exact fun w2 s H' l2 x z => h w2 s H' (l.trans l2) x (z.trans e)
theorem PG.imp {X : Cx} {e : Expr} {t t' : TG} (h : PG X e t) (f : ∀ v σ H Q, t' v σ H Q → t v σ H Q) : PG X e t' := ⟨fun pins s σ H v u Q I r q => h.run pins s σ H v u Q I r (f v σ H Q q)⟩
theorem PGs.imp {X : Cx} {e : List Expr} {t t' : TGs} (h : PGs X e t) (f : ∀ v σ H Q, t' v σ H Q → t v σ H Q) : PGs X e t' := ⟨fun pins s σ H v u Q I r q => h.run pins s σ H v u Q I r (f v σ H Q q)⟩
def tgName (i : Nat) : MG := fun d ds h => some (ds.set i (some d), h)
def tgNil : MGs := fun l ds h => match l with | [] => some (ds, h) | _ => none
def tgCons (a : MG) (b : MGs) : MGs := fun l ds h => match l with
  | [] => none | d :: r => (a d ds h).bind fun q => b r q.1 q.2
def tgTup (n : Nat) (m : MGs) : MG := fun d ds h => match d with
  | .tup l => if l.length = n then m l ds h else none | _ => none
def mAsg (e : ME) (t : MG) : MS := fun ds h => lift (e ds h) ds fun d h1 => match t d ds h1 with
  | some (ds', h') => .next ds' h' | none => .stuck
section
variable {X : Cx} {g : Gd} {W : WX} {p : Pn} {pos : Pos} {e : Expr} {es : List Expr} {ma : MG} {mb : MGs} {m : ME} {vs : List Nat}
theorem mg_name (i : Nat) {x : Str} (hN : X.N.Nodup) (hi : X.N[i]? = some x := by rfl) (hv : i ∈ vs := by decide) (hx : Loc X.env.scope x := by first | exact Or.inl rfl | exact Or.inr rfl) (hp : p.no i = true := by rfl) (hf : X.fn x = true ∨ X.env.scope.names.lookup x = some .local := by first | exact .inl rfl | exact .inr rfl | assumption) :
    PG X (.Name x pos) (RdTg g p vs (tgName i)) :=
  PG.imp (pg_name hN hi hx hf) fun v σ H Q ⟨w, ds, h, d, s, r, q⟩ => q w _ H (Le.refl _) (s.set hp r) (wipe_set hv)
theorem mgs_nil : PGs X [] (RdTgs g p vs tgNil) := PGs.imp pgs_nil fun vs σ H Q ⟨w, ds, h, l, s, r, q⟩ => by
  cases l with
  | nil => exact ⟨r.of_nil, q w σ H (Le.refl _) s rfl⟩
  | cons _ _ => exact q.elim
theorem mgs_cons (h1 : PG X e (RdTg g p vs ma)) (h2 : PGs X es (RdTgs g p vs mb)) (hs : (assignEach (e :: es) X.env).map (·.2) = assign e X.env :: (assignEach es X.env).map (·.2) := by rfl) : PGs X (e :: es) (RdTgs g p vs (tgCons ma mb)) := by
  refine PGs.imp (pgs_cons h1 h2 hs) fun us σ H Q ⟨w, ds, h, l, s, r, q⟩ => ?_
  cases l with
  | nil => exact q.elim
  | cons d l =>
    obtain ⟨v, vr, rfl, r1, r2⟩ := r.uncons
    refine ⟨v, vr, rfl, w, ds, h, d, s, r1, ?_⟩
    simp only [tgCons] at q
    cases e1 : ma d ds h with
    | none => rw [e1] at q; exact q.elim
    | some z =>
      rw [e1] at q
      exact fun w' σ' H' l' s' ew => ⟨w', z.1, z.2, l, s', Reps.mono l' _ r2, PostT.mono l' ew q⟩
/-- a tuple of n names for the items of a tuple just made -/
def tgPair (n : Nat) (m : MGs) : MGs := fun l ds h => if l.length = n then m l ds h else none
theorem mgP_tup {k : Nat} (n : Nat) (hk : X.K = g.K) (hc : X.calm = true) (h : PGs X es (RdTgs g p vs mb)) (hn : (assignEach es X.env).length = n := by rfl) (hst : (assignEach es X.env).findIdx? (·.1) = none := by rfl) : PG X (.Tuple es k pos) (RdGt g p (rP g) vs (tgPair n mb)) := by
  refine PG.imp (pg_tup hc h hn hst) fun v σ H Q ⟨w, ds, h, l, s, ⟨a, us, e, sq, r⟩, q⟩ => ?_
  subst e
  simp only [tgPair] at q
  split at q
  · rename_i hl
    exact ⟨a, us, rfl, by rw [hk]; exact sq, by rw [← r.length]; exact hl, w, ds, h, l, s, r, q⟩
  · exact q.elim
theorem mg_tup {k : Nat} (n : Nat) (hk : X.K = g.K) (hc : X.calm = true) (h : PGs X es (RdTgs g p vs mb)) (hn : (assignEach es X.env).length = n := by rfl) (hst : (assignEach es X.env).findIdx? (·.1) = none := by rfl) : PG X (.Tuple es k pos) (RdTg g p vs (tgTup n mb)) := by
  refine PG.imp (pg_tup hc h hn hst) fun v σ H Q ⟨w, ds, h, d, s, r, q⟩ => ?_
  cases d with
  | tup l =>
    obtain ⟨a, us, rfl, e, r⟩ : ∃ a vs, v = .ref a ∧ PTu g.K w.F a vs ∧ Reps g w l vs := by simpa only [rD, Rep] using r
    simp only [tgTup] at q
    split at q
    · rename_i hl
      exact ⟨a, us, rfl, by rw [hk]; exact SqT.mono s.h.sub e.sq, by rw [← r.length]; exact hl, w, ds, h, l, s, r, q⟩
    · exact q.elim
  | _ => exact q.elim
theorem ms_asg {tg : Expr} (vs : List Nat) (he : PE X e (RdE g W p m)) (hg : PG X tg (RdTg g p vs ma)) (hs : swapsWithSole [tg] e pos.line X.env = pure false := by rfl) (hw : swappedStores [tg] e X.env = pure none := by rfl)
    (h1 : (assignEach [tg] X.env).map (·.2) = [assign tg X.env] := by rfl) : PS X (.Assign [tg] e pos) (RdS g W p (mAsg m ma)) := by
  refine PS.imp (ps_asg he hg hs hw h1) fun D σ H ⟨w, ds, h, s, q⟩ => ?_
  refine RdG.mk s (PostS.lift s q fun w1 d h1 x H1 l1 s1 r1 q1 => ?_)
  refine ⟨w1, ds, h1, d, s1, r1, ?_⟩
  cases e1 : ma d ds h1 with
  | none => rw [e1] at q1; exact q1
  | some z => rw [e1] at q1; exact fun w' σ' H' l' s' _ => q1 w' σ' H' l' s'
/-- a, b = x, y: plain local names -/
def mPar (i j : Nat) (ma mb : ME) : MS := fun ds h => lift ((ma ds h).bind fun a h1 => (mb ds h1).bind fun b h2 => .ok (a, b) h2) ds fun q h2 => .next ((ds.set i (some q.1)).set j (some q.2)) h2
theorem ms_par (i j : Nat) {x y : Str} {a b : Expr} {m1 m2 : ME} {px py pt : Pos} {kt k2 pt2} (hc : X.calm = true) (hN : X.N.Nodup) (ha : PE X a (RdE g W p m1)) (hb : PE X b (RdE g W p m2)) (hi : X.N[i]? = some x := by rfl) (hj : X.N[j]? = some y := by rfl) (hij : i ≠ j := by decide)
    (hx : X.env.scope.names.lookup x = some .local := by rfl) (hy : X.env.scope.names.lookup y = some .local := by rfl) (hp : p.no i = true := by rfl) (hp2 : p.no j = true := by rfl)
    (hw : swappedStores [.Tuple [.Name x px, .Name y py] kt pt] (.Tuple [a, b] k2 pt2) X.env = pure (some [x, y]) := by rfl)
    (hs : swapsWithSole [.Tuple [.Name x px, .Name y py] kt pt] (.Tuple [a, b] k2 pt2) pos.line X.env = pure false := by rfl)
    (hst : starEach [a, b] X.env = (false, eval a X.env) :: starEach [b] X.env := by rfl) (hst2 : starEach [b] X.env = (false, eval b X.env) :: starEach [] X.env := by rfl) :
    PS X (.Assign [.Tuple [.Name x px, .Name y py] kt pt] (.Tuple [a, b] k2 pt2) pos) (RdS g W p (mPar i j m1 m2)) := by
  refine PS.imp (ps_par hc hN hi hj hij hx hy (pa_cons ha (pa_cons hb pa_nil hst2) hst) hw hs) fun En σ H ⟨w, ds, h, s, q⟩ => ?_
  have q2 : PostG g (fun w (ab : D × D) (vs : List V) => ∃ v u, vs = [v, u] ∧ Rep g w ab.1 v ∧ Rep g w ab.2 u) W w σ ((m1 ds h).bind fun a h1 => (m2 ds h1).bind fun b h2 => .ok (a, b) h2) (fun vs H1 => ∃ v w, vs = [v, w] ∧ En.nx ((σ.set i (some v)).set j (some w)) H1) :=
    PostS.lift s q fun w1 d h1 x H1 l1 s1 r1 q1 => by
      obtain ⟨v, u, rfl, r1, r2⟩ := r1
      exact ⟨v, u, rfl, q1 w1 _ H1 (Le.refl _) ((s1.set hp r1).set hp2 r2)⟩
  refine RdG.mk s (PostG.bind s q2 fun w1 d h1 x H1 l1 s1 r1 q1 => ?_)
  refine RdG.mk s1 (PostG.bind s1 q1 fun w2 e h2 y H2 l2 s2 r2 q2 => ?_)
  exact q2 w2 [x, y] H2 (Le.refl _) s2.h ⟨x, y, rfl, r1.mono l2, r2⟩
end

/-! ### steps that the program does not see: a list of the store comes to be unchanging -/
def frz1 (d : D) (h : MH) : Vr := match d with
  | .ref n => (match h[n]? with | some (.lst l) => some (.lst l, h.set n .gone) | _ => none) | _ => none
theorem frz1_ok {g : Gd} {w : Wd} {d d' : D} {v : V} {h h' : MH} {H : Hp} (s : SimH g w h H) (r : Rep g w d v) (e : frz1 d h = some (d', h')) : ∃ w', Le w w' ∧ SimH g w' h' H ∧ Rep g w' d' v := by
  cases d with
  | ref n =>
    simp only [Rep] at r
    obtain ⟨a, rfl, m⟩ := r
    simp only [frz1] at e
    split at e
    · rename_i l hl
      simp only [Option.some.injEq, Prod.mk.injEq] at e
      obtain ⟨rfl, rfl⟩ := e
      obtain ⟨vs, e1, r, le, s'⟩ := s.freeze m hl
      refine ⟨_, le, s', ?_⟩
      simp only [Rep]
      exact ⟨a, vs, rfl, upd_same, r.mono le⟩
    · cases e
  | _ => cases e
def mFrz (m : ME) : ME := fun ds h => (m ds h).bind fun d h1 => Res.of (frz1 d h1)
/-- the list in slot i -/
def ghFrz (i : Nat) (a : MS) : MS := fun ds h => match a ds h with
  | .next ds1 h1 => (match ds1[i]? with
    | some (some d) => (match frz1 d h1 with | some (d', h') => .next (ds1.set i (some d')) h' | none => .stuck) | _ => .stuck)
  | r => r
section
variable {X : Cx} {g : Gd} {W : WX} {p : Pn} {e : Expr} {m : ME} {st : Stmt} {a : MS}
theorem me_frz (he : PE X e (RdE g W p m)) : PE X e (RdE g W p (mFrz m)) := by
  refine PE.imp he fun σ H Q ⟨w, ds, h, s, q⟩ => ?_
  refine RdG.mk s (PostG.bind s q fun w1 d h1 x H1 l1 s1 r1 q1 => ?_)
  cases e1 : frz1 d h1 with
  | none => rw [e1] at q1; exact q1.elim
  | some z =>
    obtain ⟨d', h'⟩ := z
    rw [e1] at q1
    obtain ⟨w', l', s', r'⟩ := frz1_ok s1.h r1 e1
    exact q1 w' x H1 l' s' r'
theorem ms_frz (i : Nat) (hs : PS X st (RdS g W p a)) : PS X st (RdS g W p (ghFrz i a)) := by
  refine PS.imp hs fun D σ H ⟨w, ds, h, s, q⟩ => ⟨w, ds, h, s, ?_⟩
  unfold ghFrz at q
  cases e : a ds h with
  | next ds1 h1 =>
    rw [e] at q
    simp only at q
    intro w' σ' H' l s'
    split at q
    · rename_i d hd
      obtain ⟨v, hv, r⟩ := s'.s.2 i d hd
      split at q
      · rename_i d' h' e1
        obtain ⟨w2, l2, s2, r2⟩ := frz1_ok s'.h r e1
        refine q w2 σ' H' (l.trans l2) ⟨?_, s2, s'.p.mono l2⟩
        have z := (s'.s.mono l2).set (i := i) r2
        have e2 : σ'.set i (some v) = σ' := by
          apply List.ext_getElem?
          intro j
          by_cases hj : i = j
          · subst hj
            have hlt : i < σ'.length := (List.getElem?_eq_some_iff.mp hv).1
            rw [List.getElem?_set_self hlt]; exact hv.symm
          · rw [List.getElem?_set_ne hj]
        rw [e2] at z
        exact z
      · exact q.elim
    · exact q.elim
  | ret d h1 => rw [e] at q; exact q
  | brk ds1 h1 => rw [e] at q; exact q
  | cont ds1 h1 => rw [e] at q; exact q
  | exc x ds1 h1 => rw [e] at q; exact q
  | stuck => rw [e] at q; exact q
end

/-! ### defs -/
/-- from where on nothing is told of any more -/
def gcAt (n : Nat) (ok : Nat → Bool) (len : Nat) : Option Nat := (List.range (len + 1)).find? fun k => decide (n ≤ k) && ok k
theorem gcAt_some {n len k : Nat} {ok : Nat → Bool} (h : gcAt n ok len = some k) : n ≤ k ∧ ok k = true := by
  have := List.find?_some h
  simpa using this
theorem gcAt_self {n len : Nat} {ok : Nat → Bool} (h : ok n = true) (hn : n ≤ len) : gcAt n ok len = some n := by
  unfold gcAt
  rw [List.find?_range_eq_some]
  refine ⟨by simp [h], by simpa using Nat.lt_succ_of_le hn, fun j hj => ?_⟩
  simp; exact .inl hj
mutual
/-- no reference from k on -/
def D.low (k : Nat) : D → Bool
  | .ref n => decide (n < k)
  | .tup l => lowAll k l | .lst l => lowAll k l | .scr l => lowAll k l | .dic _ l => lowAll k l
  | _ => true
def lowAll (k : Nat) : List D → Bool
  | [] => true
  | d :: r => D.low k d && lowAll k r
end
section
variable {g : Gd} {w : Wd}
mutual
theorem Rep.low {k : Nat} : ∀ (d : D) {v : V}, Rep g w d v → d.low k = true → Rep g ⟨w.F, w.mu.take k, w.fr⟩ d v
  | .non, _, h, _ | .bl _, _, h, _ | .int _, _, h, _ | .str _, _, h, _ | .ty _, _, h, _ => by simpa [Rep] using h
  | .tup l', _, h, lo => by
    simp only [Rep] at h ⊢
    obtain ⟨a, vs, e, s, r⟩ := h
    exact ⟨a, vs, e, s, Reps.low l' r (by simpa [D.low] using lo)⟩
  | .lst l', _, h, lo => by
    simp only [Rep] at h ⊢
    obtain ⟨a, vs, e, s, r⟩ := h
    exact ⟨a, vs, e, s, Reps.low l' r (by simpa [D.low] using lo)⟩
  | .scr l', _, h, lo => by
    simp only [Rep] at h ⊢
    obtain ⟨a, vs, e, s, r⟩ := h
    exact ⟨a, vs, e, s, Reps.low l' r (by simpa [D.low] using lo)⟩
  | .dic ks l', _, h, lo => by
    simp only [Rep] at h ⊢
    obtain ⟨a, kvs, e, s, k, r⟩ := h
    exact ⟨a, kvs, e, s, k, Reps.low l' r (by simpa [D.low] using lo)⟩
  | .ref n, _, h, lo => by
    simp only [Rep] at h ⊢
    obtain ⟨a, e, s⟩ := h
    have hn : n < k := by simpa [D.low] using lo
    exact ⟨a, e, by rw [List.getElem?_take_of_lt hn]; exact s⟩
theorem Reps.low {k : Nat} : ∀ (ds : List D) {vs : List V}, Reps g w ds vs → lowAll k ds = true → Reps g ⟨w.F, w.mu.take k, w.fr⟩ ds vs
  | [], _, h, _ => by simpa [Reps] using h
  | d :: ds, _, h, lo => by
    simp only [Reps] at h ⊢
    obtain ⟨v, r, e, h1, h2⟩ := h
    have lo' : d.low k = true ∧ lowAll k ds = true := by simpa [lowAll] using lo
    exact ⟨v, r, e, Rep.low d h1 lo'.1, Reps.low ds h2 lo'.2⟩
end
def Ob.low (k : Nat) : Ob → Bool
  | .lst l => lowAll k l | .dic _ l => lowAll k l | .ins _ fs => lowAll k (fs.map (·.2)) | .gone => true
/-- the store cut -/
theorem SimH.cut {h : MH} {H : Hp} (s : SimH g w h H) (k : Nat) (lo : (h.take k).all (Ob.low k) = true) : SimH g ⟨w.F, w.mu.take k, w.fr⟩ (h.take k) H := by
  refine ⟨s.sub, by simp [s.len], s.nd.sublist (List.take_sublist _ _), fun n o q => ?_, fun a o q => ⟨(s.fr a o q).1, (s.fr a o q).2.1, fun m => (s.fr a o q).2.2.1 (List.mem_of_mem_take m), (s.fr a o q).2.2.2⟩, s.tb, s.nt⟩
  have hn : n < k := by
    have := (List.getElem?_eq_some_iff.mp q).1
    simp at this; omega
  have hlo : o.low k = true := List.all_eq_true.mp lo o (List.mem_of_getElem? q)
  rw [List.getElem?_take_of_lt hn] at q
  obtain ⟨a, m, x⟩ := s.ob n o q
  refine ⟨a, by show (w.mu.take k)[n]? = some a; rw [List.getElem?_take_of_lt hn]; exact m, ?_⟩
  cases o with
  | lst l => obtain ⟨f, vs, e, r⟩ := x; exact ⟨f, vs, e, Reps.low l r hlo⟩
  | dic ks l => obtain ⟨f, vs, e, k, r⟩ := x; exact ⟨f, vs, e, k, Reps.low l r hlo⟩
  | ins c fs => obtain ⟨f, C, dx, fvs, k, e, r⟩ := x; exact ⟨f, C, dx, fvs, k, e, r.1, Reps.low _ r.2 hlo⟩
  | gone => exact x
end
/-- a def by its body: n parameters, N names -/
def mFn (n N : Nat) (body : MS) : List D → MH → Res D := fun l h => if l.length = n then (match body (l.map some ++ List.replicate (N - n) none) h with
  | .next _ h' => .ok .non h' | .ret d h' => .ok d h' | .exc x _ h' => .exc x h' | _ => .stuck) else .stuck
/-- .. behind it what nothing names is cut off -/
def mFnT (n N : Nat) (body : MS) : List D → MH → Res D := fun l h => match mFn n N body l h with
  | .ok d h' => (match gcAt h.length (fun k => d.low k && (h'.take k).all (Ob.low k)) h'.length with | some k => .ok d (h'.take k) | none => .ok d h')
  | .exc x h' => (match gcAt h.length (fun k => lowAll k (x.fs.map (·.2)) && (h'.take k).all (Ob.low k)) h'.length with | some k => .exc x (h'.take k) | none => .exc x h')
  | .stuck => .stuck
/-- what a def of n parameters promises -/
def spM (g : Gd) (n : Nat) (m : List D → MH → Res D) : Sp := fun vs H Q E => vs.length = n ∧ ∃ w l h, SimH g w h H ∧ Reps g w l vs ∧ PostG g (Rep g) (fun c d _ H => E c d H) w [] (m l h) Q
theorem Le.cut {w w' : Wd} (l : Le w w') {k n : Nat} (hn : w.mu.length = n) (hk : n ≤ k) : Le w ⟨w'.F, w'.mu.take k, w'.fr⟩ := ⟨l.F, fun i a z => by
  have hi : i < n := by rw [← hn]; exact (List.getElem?_eq_some_iff.mp z).1
  show (w'.mu.take _)[i]? = some a
  rw [List.getElem?_take_of_lt (by omega)]
  exact l.mu i a z, l.fr⟩
theorem spM_trim {g : Gd} {n N : Nat} {body : MS} {vs : List V} {H : Hp} {Q : VK} {E : XK} (h : spM g n (mFnT n N body) vs H Q E) : spM g n (mFn n N body) vs H Q E := by
  obtain ⟨hl, w, l, h, s, r, q⟩ := h
  refine ⟨hl, w, l, h, s, r, ?_⟩
  unfold mFnT at q
  cases e : mFn n N body l h with
  | stuck => rw [e] at q; exact q
  | ok d h' =>
    rw [e] at q
    simp only at q
    split at q
    · rename_i k hk
      obtain ⟨h1, h2⟩ := gcAt_some hk
      simp only [Bool.and_eq_true] at h2
      intro w' v H' l' s' r'
      exact q ⟨w'.F, w'.mu.take k, w'.fr⟩ v H' (l'.cut s.len h1) (s'.cut k h2.2) (Rep.low d r' h2.1)
    · exact q
  | exc x h' =>
    rw [e] at q
    simp only at q
    split at q
    · rename_i k hk
      obtain ⟨h1, h2⟩ := gcAt_some hk
      simp only [Bool.and_eq_true] at h2
      intro w' c dd H' l' s' r'
      refine q ⟨w'.F, w'.mu.take k, w'.fr⟩ c dd H' (l'.cut s.len h1) (s'.cut k h2.2) ?_
      obtain ⟨C, a, fvs, h1, h2', h3, h4, h5⟩ := r'
      exact ⟨C, a, fvs, h1, h2', h3, h4, h5.1, Reps.low _ h5.2 h2.1⟩
    · exact q
abbrev bW (E : XK) : WX := fun c d _ H => E c d H
/-- a def by its name -/
structure FnM (P : Program) (w : World) (mg : Str → Option Value) (base : Heap) (g : Gd) (k : Nat) (x qual : Str) (st : Stmt) (ps : List Str) (n : Nat) (m : List D → MH → Res D) : Prop where
  ex : ∃ f fd, Fun g.K x qual st f fd ∧ FnOk P w g.K mg base (L2.CX P w) k f fd ps (spM g n m) ∧ mg x = some (.ref f) ∧ Binds g.K fd ps [] ∧ ps.length = n
theorem spM_start {g : Gd} {n : Nat} {N ps : List Str} {body : MS} {vs : List V} {H : Hp} {Q : VK} {E : XK} (hn : ps.length = n) (h : spM g n (mFn n N.length body) vs H Q E) :
    RdS g (bW E) pn0 body { nx := fun _ H' => Q .non H', rt := Q } (L2.start N vs) H := by
  obtain ⟨hl, w, l, h, s, r, q⟩ := h
  have ll : l.length = n := by rw [r.length]; exact hl
  unfold mFn at q
  rw [if_pos ll] at q
  refine ⟨w, l.map some ++ List.replicate (N.length - n) none, h, ⟨⟨by simp [L2.start, ll, hl], fun i d e => ?_⟩, s, .zero⟩, ?_⟩
  · by_cases hi : i < l.length
    · rw [List.getElem?_append_left (by simpa using hi), List.getElem?_map] at e
      cases e2 : l[i]? with
      | none => rw [e2] at e; cases e
      | some d' =>
        rw [e2] at e
        simp at e; subst e
        obtain ⟨v, h1, h2⟩ := r.get e2
        refine ⟨v, ?_, h2⟩
        unfold L2.start
        rw [List.getElem?_append_left (by simp; rw [← r.length]; exact hi), List.getElem?_map, h1]; rfl
    · rw [List.getElem?_append_right (by simpa using hi), List.getElem?_replicate] at e
      split at e <;> cases e
  · cases e : body (l.map some ++ List.replicate (N.length - n) none) h with
    | next ds h' => rw [e] at q; exact fun w' σ' H' l' s' => q w' .non H' l' s'.h (by simp [Rep])
    | ret d h' => rw [e] at q; exact q
    | exc x ds h' => rw [e] at q; exact fun w' σ' c dd H' l' s' r' => q w' c dd H' l' s'.h r'
    | brk ds h' => rw [e] at q; exact q.elim
    | cont ds h' => rw [e] at q; exact q.elim
    | stuck => rw [e] at q; exact q.elim
section
variable {P : Program} {w : World} {mg : Str → Option Value} {base : Heap} {g : Gd}
/-- the context of a def's body -/
abbrev bX (P : Program) (w : World) (g : Gd) (mg : Str → Option Value) (base : Heap) (N : List Str) (qual : Str) (sc : Scope) (f : Addr) (cdv : Value) (A : Around) (outer : List Env) (s : Shared) (H : Hp) (E : XK) : Cx := cxOf (L2.CX P w) P w g.K mg base N qual sc f cdv A outer s H E
/-- the code of the def at f -/
def codeVal (K : PySem.W.Frag) (f : Addr) : Value := match K.lookup f with
  | some ⟨_, _, .func fd, _⟩ => fd.code | _ => .none
theorem fnok_mk {x qual : Str} {st : Stmt} {f : Addr} {fd : FuncData} {N ps : List Str} {k n : Nat} {body : MS} (F : Fun g.K x qual st f fd) (S : FnScope N ps (defScope st)) (hn : ps.length = n)
    (hbody : ∀ (cdv : Value) (A : Around) (outer : List Env) (s : Shared) (H : Hp) (E : XK), codeVal g.K f = cdv → Room k (A.deeper (envOfC qual (defScope st) s.heap.objs.size f cdv)) → Takes (bX P w g mg base N qual (defScope st) f cdv A outer s H E) (bW E) →
      PassesOwn (model P w) (bX P w g mg base N qual (defScope st) f cdv A outer s H E).A (bX P w g mg base N qual (defScope st) f cdv A outer s H E).env (bX P w g mg base N qual (defScope st) f cdv A outer s H E).xe →
      PSs (bX P w g mg base N qual (defScope st) f cdv A outer s H E) (defBody st) (RdS g (bW E) pn0 body)) : FnOk P w g.K mg base (L2.CX P w) (k + 1) f fd ps (spM g n (mFn n N.length body)) := by
  obtain ⟨oc, od, kV, doc, pm, an, cdv, ct, osl, rfl, lk, hcd⟩ := F.ex
  refine fn_of lk hcd S (fun vs H Q E h => by rw [hn]; exact h.1) fun A outer s H vs Q E hr hsp => ?_
  exact ⟨_, hbody cdv A outer s H E (by unfold codeVal; rw [lk]) hr (takes_of rfl rfl rfl rfl) (passes_of rfl), spM_start hn hsp⟩
theorem fnok_trim {f : Addr} {fd : FuncData} {ps : List Str} {k n N : Nat} {body : MS} (F : FnOk P w g.K mg base (L2.CX P w) k f fd ps (spM g n (mFn n N body))) : FnOk P w g.K mg base (L2.CX P w) k f fd ps (spM g n (mFnT n N body)) :=
  F.imp fun vs H Q E h => spM_trim h
theorem FnM.mono {k j n : Nat} {x qual : Str} {st : Stmt} {ps : List Str} {m : List D → MH → Res D} (F : FnM P w mg base g k x qual st ps n m) (h : k ≤ j) : FnM P w mg base g j x qual st ps n m := by
  obtain ⟨f, fd, a, b, r⟩ := F
  exact ⟨f, fd, a, b.mono h, r⟩
/-- where a def stands behind the top -/
structure At (mg : Str → Option Value) (g : Gd) (x qual : Str) (st : Stmt) (ps : List Str) : Prop where
  ex : ∃ f fd, Fun g.K x qual st f fd ∧ mg x = some (.ref f) ∧ Binds g.K fd ps []
/-- THE RULE for a def -/
theorem FnM.mk' {x qual : Str} {st : Stmt} {N ps : List Str} {k n : Nat} {body : MS} (T : At mg g x qual st ps) (S : FnScope N ps (defScope st)) (hn : ps.length = n)
    (hbody : ∀ (f : Addr) (cdv : Value) (A : Around) (outer : List Env) (s : Shared) (H : Hp) (E : XK), mg x = some (.ref f) → codeVal g.K f = cdv → Room k (bX P w g mg base N qual (defScope st) f cdv A outer s H E).A → Takes (bX P w g mg base N qual (defScope st) f cdv A outer s H E) (bW E) →
      PassesOwn (model P w) (bX P w g mg base N qual (defScope st) f cdv A outer s H E).A (bX P w g mg base N qual (defScope st) f cdv A outer s H E).env (bX P w g mg base N qual (defScope st) f cdv A outer s H E).xe →
      PSs (bX P w g mg base N qual (defScope st) f cdv A outer s H E) (defBody st) (RdS g (bW E) pn0 body)) : FnM P w mg base g (k + 1) x qual st ps n (mFn n N.length body) := by
  obtain ⟨f, fd, F, hm, hb⟩ := T
  exact ⟨f, fd, F, fnok_mk F S hn (fun cdv A outer s H E hcv hr tk hp => hbody f cdv A outer s H E hm hcv hr tk hp), hm, hb, hn⟩
theorem FnM.trim {x qual : Str} {st : Stmt} {ps : List Str} {k n N : Nat} {body : MS} (F : FnM P w mg base g k x qual st ps n (mFn n N body)) : FnM P w mg base g k x qual st ps n (mFnT n N body) := by
  obtain ⟨f, fd, a, b, r⟩ := F
  exact ⟨f, fd, a, fnok_trim b, r⟩
end
def mCall (n : Nat) (m : List D → MH → Res D) (ma : MA) : ME := fun ds h => (ma ds h).bind fun l h1 => if l.length = n then m l h1 else .stuck
section
variable {X : Cx} {g : Gd} {W : WX} {p : Pn} {pos pp : Pos} {e : Expr} {es : List Expr} {ma : MA} {k n : Nat} {x qual : Str} {stf : Stmt} {ps : List Str} {m : List D → MH → Res D}
theorem PostG.slots {w : Wd} {σ σ' : L2.St} {r : Res D} {Q : VK} (h : PostG g (Rep g) W w σ r Q) : PostG g (Rep g) (bW (WE W σ)) w σ' r Q := by
  cases r with
  | ok d h' => exact h
  | exc x h' => exact h
  | stuck => exact h
theorem me_call (hk : X.K = g.K) (F : FnM X.prog X.w X.mg X.base g k x qual stf ps n m) (hr : Room k X.A) (tk : Takes X W) (ha : PA X (e :: es) (RdA g W p ma)) (hg : Gl X x := by rfl) (hdb : (x == ("__debug__" : Str)) = false := by decide)
    (he : starEach (e :: es) X.env = (false, eval e X.env) :: starEach es X.env := by rfl) (hpl : (backTo pos (starEach es X.env)).any (·.1) = false := by rfl) : PE X (.Call (.Name x pp) (e :: es) [] pos) (RdE g W p (mCall n m ma)) := by
  obtain ⟨f, fd, Fu, F, hm, hb, hn⟩ := F
  have kp := Fu.kp
  rw [← hk] at F kp hb
  refine PE.imp (pe_callS F hr hg hm kp hb (fun σ => passAt tk σ) ha hdb he hpl) fun σ H Q ⟨w, ds, h, s, q⟩ => ?_
  refine RdG.mk s (PostG.bind s q fun w1 l h1 vs H1 l1 s1 r1 q1 => ?_)
  split at q1
  · rename_i hl
    exact ⟨by rw [← r1.length]; exact hl, w1, l, h1, s1.h, r1, q1.slots⟩
  · exact q1.elim
end
end ML
set_option Elab.async false
set_option linter.all false
set_option maxRecDepth 100000
set_option maxHeartbeats 2000000
set_option autoImplicit false
/-! M: operators on data. -/
namespace ML
open PySem PySem.Spec PyProof.Rows L2

/-! ### what a value is, looked at -/
def lstOf (d : D) (h : MH) : Option (List D) := match d with
  | .lst l => some l
  | .ref n => (match h[n]? with | some (.lst l) => some l | _ => none)
  | _ => none
/-- a list or a tuple -/
def seqOf (d : D) (h : MH) : Option (List D) := match d with
  | .tup l => some l | .scr l => some l | d => lstOf d h
def dicOf (d : D) (h : MH) : Option (List Key × List D) := match d with
  | .dic ks l => some (ks, l)
  | .ref n => (match h[n]? with | some (.dic ks l) => some (ks, l) | _ => none)
  | _ => none
def keyOf (d : D) : Option Key := match d with
  | .int i => some (.inl i) | .str x => some (.inr x) | _ => none
def lookK : List Key → List D → Key → Option D
  | k' :: ks, d :: l, k => if k' = k then some d else lookK ks l k
  | _, _, _ => none
section
variable {g : Gd} {w : Wd} {h : MH} {H : Hp} {d : D} {v : V}
theorem lstOf_ok (s : SimH g w h H) (r : Rep g w d v) {l : List D} (e : lstOf d h = some l) : ∃ a vs, v = .ref a ∧ H a = some (.lst vs) ∧ Reps g w l vs := by
  cases d with
  | lst l' =>
    simp only [Rep] at r; obtain ⟨a, vs, rfl, f, r⟩ := r
    simp only [lstOf, Option.some.injEq] at e; subst e
    exact ⟨a, vs, rfl, s.sub _ _ f, r⟩
  | ref n =>
    simp only [Rep] at r; obtain ⟨a, rfl, m⟩ := r
    obtain ⟨o, ho, x⟩ := s.at_ m
    simp only [lstOf, ho] at e
    cases o with
    | lst l' =>
      simp only [Option.some.injEq] at e; subst e
      obtain ⟨_, vs, f, r⟩ := x
      exact ⟨a, vs, rfl, f, r⟩
    | _ => cases e
  | _ => cases e
theorem seqOf_ok (s : SimH g w h H) (r : Rep g w d v) {l : List D} (e : seqOf d h = some l) : ∃ a vs, v = .ref a ∧ (SqL g.K H a vs ∨ SqT g.K H a vs) ∧ Reps g w l vs := by
  have go : lstOf d h = some l → ∃ a vs, v = .ref a ∧ (SqL g.K H a vs ∨ SqT g.K H a vs) ∧ Reps g w l vs := fun e => by
    obtain ⟨a, vs, e1, e2, r2⟩ := lstOf_ok s r e
    exact ⟨a, vs, e1, .inl (SqL.of e2), r2⟩
  cases d with
  | tup l' =>
    simp only [Rep] at r; obtain ⟨a, vs, rfl, f, r⟩ := r
    simp only [seqOf, Option.some.injEq] at e; subst e
    exact ⟨a, vs, rfl, .inr (SqT.mono s.sub f.sq), r⟩
  | scr l' =>
    simp only [Rep] at r; obtain ⟨a, vs, rfl, f, r⟩ := r
    simp only [seqOf, Option.some.injEq] at e; subst e
    exact ⟨a, vs, rfl, .inl (SqL.mono s.sub f), r⟩
  | _ => exact go e
theorem dicOf_ok (s : SimH g w h H) (r : Rep g w d v) {q : List Key × List D} (e : dicOf d h = some q) : ∃ a kvs, v = .ref a ∧ H a = some (.dK kvs) ∧ kvs.map (·.1) = q.1 ∧ Reps g w q.2 (kvs.map (·.2)) := by
  cases d with
  | dic ks l' =>
    simp only [Rep] at r; obtain ⟨a, kvs, rfl, f, k, r⟩ := r
    simp only [dicOf, Option.some.injEq] at e; subst e
    exact ⟨a, kvs, rfl, s.sub _ _ f, k, r⟩
  | ref n =>
    simp only [Rep] at r; obtain ⟨a, rfl, m⟩ := r
    obtain ⟨o, ho, x⟩ := s.at_ m
    simp only [dicOf, ho] at e
    cases o with
    | dic ks l' =>
      simp only [Option.some.injEq] at e; subst e
      obtain ⟨_, kvs, f, k, r⟩ := x
      exact ⟨a, kvs, rfl, f, k, r⟩
    | _ => cases e
  | _ => cases e
theorem keyOf_ok (r : Rep g w d v) {k : Key} (e : keyOf d = some k) : v = kV k := by
  cases d with
  | int i => simp only [Rep] at r; simp only [keyOf, Option.some.injEq] at e; subst e; exact r
  | str x => simp only [Rep] at r; simp only [keyOf, Option.some.injEq] at e; subst e; exact r
  | _ => cases e
theorem lookK_ok : ∀ {ks : List Key} {l : List D} {kvs : List (Key × V)} {k : Key}, kvs.map (·.1) = ks → Reps g w l (kvs.map (·.2)) →
    (∀ d, lookK ks l k = some d → ∃ v, valV kvs k = some v ∧ Rep g w d v) ∧ (lookK ks l k = none → valV kvs k = none)
  | ks, l, [], k, e, r => by
    simp at e; subst e
    have := r.length
    simp at this; subst this
    exact ⟨fun d z => (by cases z), fun _ => rfl⟩
  | ks, l, p :: kvs, k, e, r => by
    subst e
    rw [List.map_cons] at r
    cases l with
    | nil => have := r.length; simp at this
    | cons x l =>
      obtain ⟨v, r', e1, h1, h2⟩ := r.uncons
      cases e1
      have ih := lookK_ok (k := k) rfl h2
      rw [List.map_cons, lookK]
      by_cases z : p.1 = k
      · rw [if_pos z, valV_pos z]
        exact ⟨fun d q => ⟨p.2, rfl, by cases q; exact h1⟩, fun q => by cases q⟩
      · rw [if_neg z, valV_neg z]
        exact ih
end

section
variable {X : Cx} {g : Gd}
theorem PostV.here {w : Wd} {h : MH} {H : Hp} {d : D} {v : V} {Q : VK} (q : PostV g w (some (d, h)) Q) (s : SimH g w h H) (r : Rep g w d v) : Q v H := q w v H (Le.refl w) s r
theorem PostV.tup {w : Wd} {h : MH} {H : Hp} {l : List D} {vs : List V} {Q : VK} (q : PostV g w (some (.tup l, h)) Q) (s : SimH g w h H) (r : Reps g w l vs) : ∀ p o, H p = none → o.dict = none → Q (.ref p) (upd H p (.frz o (.tup vs))) := fun p o hp hd => by
  obtain ⟨l2, s2, r2⟩ := tupled s r hp hd
  exact q _ _ _ l2 s2 r2
theorem PostV.lst {w : Wd} {h : MH} {H : Hp} {l : List D} {vs : List V} {Q : VK} (q : PostV g w (some (.lst l, h)) Q) (s : SimH g w h H) (r : Reps g w l vs) : ∀ p, H p = none → Q (.ref p) (upd H p (.lst vs)) := fun p hp => by
  obtain ⟨l2, s2, r2⟩ := listed s r hp
  exact q _ _ _ l2 s2 r2
theorem PostV.dic {w : Wd} {h : MH} {H : Hp} {ks : List Key} {l : List D} {kvs : List (Key × V)} {Q : VK} (q : PostV g w (some (.dic ks l, h)) Q) (s : SimH g w h H) (k : kvs.map (·.1) = ks) (r : Reps g w l (kvs.map (·.2))) : ∀ p, H p = none → Q (.ref p) (upd H p (.dK kvs)) := fun p hp => by
  have l1 : Le w (w.add p (.dK kvs)) := Le.add (s.free hp) _
  refine q _ _ _ l1 (s.add _ hp) ?_
  simp only [Rep]
  exact ⟨p, kvs, rfl, upd_same, k, r.mono l1⟩
theorem Rep.int {w : Wd} {i : Int} {v : V} (r : Rep g w (.int i) v) : v = .int i := by simpa only [Rep] using r
theorem Rep.str {w : Wd} {i : Str} {v : V} (r : Rep g w (.str i) v) : v = .str i := by simpa only [Rep] using r
theorem Rep.non {w : Wd} {v : V} (r : Rep g w .non v) : v = .non := by simpa only [Rep] using r
theorem rep_int {w : Wd} (i : Int) : Rep g w (.int i) (.int i) := by simp only [Rep]
theorem rep_str {w : Wd} (i : Str) : Rep g w (.str i) (.str i) := by simp only [Rep]
theorem rep_bl {w : Wd} (i : Bool) : Rep g w (.bl i) (.bl i) := by simp only [Rep]
theorem rep_non {w : Wd} : Rep g w .non .non := by simp only [Rep]

/-- two lists, tracked -/
theorem op_catL : OpR X (binaryOp .Add) rCat := op_cat
/-! ### + -/
def gAdd : O2 := fun a b h => match a, b with
  | .int i, .int j => some (.int (i + j), h)
  | .str x, .str y => if x.length + y.length ≤ sizeLine then some (.str (x ++ y), h) else none
  | .tup l, .tup m => if l.length + m.length ≤ sizeLine then some (.tup (l ++ m), h) else none
  | a, b => match lstOf a h, lstOf b h with
    | some l, some m => if l.length + m.length ≤ sizeLine then some (.lst (l ++ m), h) else none
    | _, _ => none
theorem gAdd_lst (hk : X.K = g.K) {pins : List (Addr × Obj)} {s : Shared} {σ : L2.St} {H : Hp} {x y : V} {v u : Value} {Q : VK} {w : Wd} {h : MH} {a b : D} (I : Inv X pins σ H s) (rx : RelV x v) (ry : RelV y u) (sh : SimH g w h H) (ra : Rep g w a x) (rb : Rep g w b y)
    (q : PostV g w (match lstOf a h, lstOf b h with | some l, some m => if l.length + m.length ≤ sizeLine then some (.lst (l ++ m), h) else none | _, _ => none) Q) :
    wpAny (model X.prog X.w) X.A (binaryOp .Add v u) (EP X pins σ Q) X.xe s := by
  cases e1 : lstOf a h with
  | none => rw [e1] at q; exact q.elim
  | some l =>
    cases e2 : lstOf b h with
    | none => rw [e1, e2] at q; exact q.elim
    | some m =>
      rw [e1, e2] at q
      simp only at q
      split at q
      · rename_i hz
        obtain ⟨p1, vs, rfl, f1, r1⟩ := lstOf_ok sh ra e1
        obtain ⟨p2, us, rfl, f2, r2⟩ := lstOf_ok sh rb e2
        exact op_catL pins s σ H _ _ v u Q I rx ry ⟨p1, p2, vs, us, rfl, rfl, f1, f2, by rw [← r1.length, ← r2.length]; exact hz, q.lst sh (r1.append r2)⟩
      · exact q.elim
theorem om_add (hk : X.K = g.K) : OpM X g (binaryOp .Add) gAdd := by
  rintro pins s σ H x y v u Q I rx ry ⟨w, h, a, b, sh, ra, rb, q⟩
  have L := fun q => gAdd_lst (Q := Q) hk I rx ry sh ra rb q
  cases a with
  | int i =>
    cases b with
    | int j => cases ra.int; cases rb.int; exact op_add pins s σ H _ _ v u Q I rx ry ⟨i, j, rfl, rfl, q.here sh (rep_int _)⟩
    | _ => exact L q
  | str i =>
    cases b with
    | str j =>
      cases ra.str; cases rb.str
      simp only [gAdd] at q
      split at q
      · rename_i hz
        exact op_add_str pins s σ H _ _ v u Q I rx ry ⟨i, j, rfl, rfl, hz, q.here sh (rep_str _)⟩
      · exact q.elim
    | _ => exact L q
  | tup l =>
    cases b with
    | tup m =>
      simp only [gAdd] at q
      split at q
      · rename_i hz
        simp only [Rep] at ra rb
        obtain ⟨p1, vs, rfl, f1, r1⟩ := ra
        obtain ⟨p2, us, rfl, f2, r2⟩ := rb
        have t1 := SqT.mono sh.sub f1.sq
        have t2 := SqT.mono sh.sub f2.sq
        refine op_catF pins s σ H _ _ v u Q I rx ry ⟨p1, p2, vs, us, rfl, rfl, by rw [hk]; exact t1, by rw [hk]; exact t2, by rw [← r1.length, ← r2.length]; exact hz, fun e => ?_, fun e e' => ?_, fun e e' => q.tup sh (r1.append r2)⟩
        · subst e
          have := r1.length
          simp at this; subst this
          exact q.here sh (by simp only [Rep]; exact ⟨p2, us, rfl, f2, r2⟩)
        · subst e'
          have := r2.length
          simp at this; subst this
          exact q.here sh (by simp only [Rep, List.append_nil]; exact ⟨p1, vs, rfl, f1, r1⟩)
      · exact q.elim
    | _ => exact L q
  | _ => cases b <;> exact L q

/-! ### ints -/
/-- an int, bools too -/
def gSub : O2 := fun a b h => match a, b with
  | .int i, .int j => some (.int (i - j), h) | _, _ => none
theorem om_sub : OpM X g (binaryOp .Sub) gSub := by
  rintro pins s σ H x y v u Q I rx ry ⟨w, h, a, b, sh, ra, rb, q⟩
  cases a with
  | int i =>
    cases b with
    | int j => cases ra.int; cases rb.int; exact op_sub pins s σ H _ _ v u Q I rx ry ⟨i, j, rfl, rfl, q.here sh (rep_int _)⟩
    | _ => exact q.elim
  | _ => cases b <;> exact q.elim
def small64 (i : Int) : Bool := decide (-(2 ^ 64) < i ∧ i < 2 ^ 64)
def gMul : O2 := fun a b h => match a, b with
  | .int i, .int j => if small64 i || small64 j then some (.int (i * j), h) else none
  | .lst l, .int k => if -(2 ^ 63) ≤ k ∧ k < 2 ^ 63 ∧ l.length * k.toNat ≤ sizeLine then some (.lst (List.replicate k.toNat l).flatten, h) else none
  | _, _ => none
theorem Reps.rep {w : Wd} {l : List D} {vs : List V} (r : Reps g w l vs) : ∀ k : Nat, Reps g w (List.replicate k l).flatten (List.replicate k vs).flatten
  | 0 => .nil
  | k + 1 => by
    rw [List.replicate_succ, List.replicate_succ, List.flatten_cons, List.flatten_cons]
    exact r.append (Reps.rep r k)
theorem om_mul : OpM X g (binaryOp .Mult) gMul := by
  rintro pins s σ H x y v u Q I rx ry ⟨w, h, a, b, sh, ra, rb, q⟩
  cases a with
  | int i =>
    cases b with
    | int j =>
      cases ra.int; cases rb.int
      simp only [gMul] at q
      split at q
      · rename_i hz
        simp only [Bool.or_eq_true, small64, decide_eq_true_eq] at hz
        exact op_mul pins s σ H _ _ v u Q I rx ry ⟨i, j, rfl, rfl, hz, q.here sh (rep_int _)⟩
      · exact q.elim
    | _ => exact q.elim
  | lst l =>
    cases b with
    | int k =>
      cases rb.int
      simp only [Rep] at ra
      obtain ⟨p1, vs, rfl, f1, r1⟩ := ra
      simp only [gMul] at q
      split at q
      · rename_i hz
        exact op_rep pins s σ H _ _ v u Q I rx ry ⟨p1, k, vs, rfl, rfl, sh.sub _ _ f1, hz.1, hz.2.1, by rw [← r1.length]; exact hz.2.2, q.lst sh (r1.rep _)⟩
      · exact q.elim
    | _ => exact q.elim
  | _ => cases b <;> exact q.elim
def gFdiv : O2 := fun a b h => match a, b with
  | .int i, .int j => if 0 < j ∧ j.natAbs.log2 < 9000 then some (.int (i / j), h) else none | _, _ => none
theorem om_fdiv : OpM X g (binaryOp .FloorDiv) gFdiv := by
  rintro pins s σ H x y v u Q I rx ry ⟨w, h, a, b, sh, ra, rb, q⟩
  cases a with
  | int i =>
    cases b with
    | int j =>
      cases ra.int; cases rb.int
      simp only [gFdiv] at q
      split at q
      · rename_i hz
        exact op_fdivW pins s σ H _ _ v u Q I rx ry ⟨i, j, rfl, rfl, hz, q.here sh (rep_int _)⟩
      · exact q.elim
    | _ => exact q.elim
  | _ => cases b <;> exact q.elim
def gMod : O2 := fun a b h => match a, b with
  | .int i, .int j => if 0 < j then some (.int (i % j), h) else none | _, _ => none
theorem om_mod : OpM X g (binaryOp .Mod) gMod := by
  rintro pins s σ H x y v u Q I rx ry ⟨w, h, a, b, sh, ra, rb, q⟩
  cases a with
  | int i =>
    cases b with
    | int j =>
      cases ra.int; cases rb.int
      simp only [gMod] at q
      split at q
      · rename_i hz
        exact op_mod pins s σ H _ _ v u Q I rx ry ⟨i, j, rfl, rfl, hz, q.here sh (rep_int _)⟩
      · exact q.elim
    | _ => exact q.elim
  | _ => cases b <;> exact q.elim
def gPow : O2 := fun a b h => match a, b with
  | .int i, .int j => if 0 ≤ j ∧ j ≤ 1000000 ∧ i.natAbs < 2 ^ 64 then some (.int (i ^ j.toNat), h) else none | _, _ => none
theorem om_pow : OpM X g (binaryOp .Pow) gPow := by
  rintro pins s σ H x y v u Q I rx ry ⟨w, h, a, b, sh, ra, rb, q⟩
  cases a with
  | int i =>
    cases b with
    | int j =>
      cases ra.int; cases rb.int
      simp only [gPow] at q
      split at q
      · rename_i hz
        exact op_pow pins s σ H _ _ v u Q I rx ry ⟨i, j, rfl, rfl, hz, q.here sh (rep_int _)⟩
      · exact q.elim
    | _ => exact q.elim
  | _ => cases b <;> exact q.elim
/-! ### order -/
def slt (x y : Str) : Bool := decide (x.cps.toList < y.cps.toList)
def gLt : O2 := fun a b h => match a, b with
  | .int i, .int j => some (.bl (decide (i < j)), h) | .str x, .str y => some (.bl (slt x y), h) | _, _ => none
def gLe : O2 := fun a b h => match a, b with
  | .int i, .int j => some (.bl (decide (i ≤ j)), h) | .str x, .str y => some (.bl (!slt y x), h) | _, _ => none
def gGt : O2 := fun a b h => match a, b with
  | .int i, .int j => some (.bl (decide (j < i)), h) | .str x, .str y => some (.bl (slt y x), h) | _, _ => none
def gGe : O2 := fun a b h => match a, b with
  | .int i, .int j => some (.bl (decide (j ≤ i)), h) | .str x, .str y => some (.bl (!slt x y), h) | _, _ => none
theorem om_lt : OpM X g (compareOp .Lt) gLt := by
  rintro pins s σ H x y v u Q I rx ry ⟨w, h, a, b, sh, ra, rb, q⟩
  cases a with
  | int i =>
    cases b with
    | int j => cases ra.int; cases rb.int; exact op_lt pins s σ H _ _ v u Q I rx ry ⟨i, j, rfl, rfl, q.here sh (rep_bl _)⟩
    | _ => exact q.elim
  | str i =>
    cases b with
    | str j => cases ra.str; cases rb.str; exact op_lt_str pins s σ H _ _ v u Q I rx ry ⟨i, j, rfl, rfl, q.here sh (rep_bl _)⟩
    | _ => exact q.elim
  | _ => cases b <;> exact q.elim
theorem om_le : OpM X g (compareOp .LtE) gLe := by
  rintro pins s σ H x y v u Q I rx ry ⟨w, h, a, b, sh, ra, rb, q⟩
  cases a with
  | int i =>
    cases b with
    | int j => cases ra.int; cases rb.int; exact op_le pins s σ H _ _ v u Q I rx ry ⟨i, j, rfl, rfl, q.here sh (rep_bl _)⟩
    | _ => exact q.elim
  | str i =>
    cases b with
    | str j => cases ra.str; cases rb.str; exact op_le_str pins s σ H _ _ v u Q I rx ry ⟨i, j, rfl, rfl, q.here sh (rep_bl _)⟩
    | _ => exact q.elim
  | _ => cases b <;> exact q.elim
theorem om_gt : OpM X g (compareOp .Gt) gGt := by
  rintro pins s σ H x y v u Q I rx ry ⟨w, h, a, b, sh, ra, rb, q⟩
  cases a with
  | int i =>
    cases b with
    | int j => cases ra.int; cases rb.int; exact op_gt pins s σ H _ _ v u Q I rx ry ⟨i, j, rfl, rfl, q.here sh (rep_bl _)⟩
    | _ => exact q.elim
  | str i =>
    cases b with
    | str j => cases ra.str; cases rb.str; exact op_gt_str pins s σ H _ _ v u Q I rx ry ⟨i, j, rfl, rfl, q.here sh (rep_bl _)⟩
    | _ => exact q.elim
  | _ => cases b <;> exact q.elim
theorem om_ge : OpM X g (compareOp .GtE) gGe := by
  rintro pins s σ H x y v u Q I rx ry ⟨w, h, a, b, sh, ra, rb, q⟩
  cases a with
  | int i =>
    cases b with
    | int j => cases ra.int; cases rb.int; exact op_ge pins s σ H _ _ v u Q I rx ry ⟨i, j, rfl, rfl, q.here sh (rep_bl _)⟩
    | _ => exact q.elim
  | str i =>
    cases b with
    | str j => cases ra.str; cases rb.str; exact op_ge_str pins s σ H _ _ v u Q I rx ry ⟨i, j, rfl, rfl, q.here sh (rep_bl _)⟩
    | _ => exact q.elim
  | _ => cases b <;> exact q.elim

/-! ### == of data at any depth -/
mutual
def py : D → PyData
  | .non => .none | .bl b => .bool b | .int i => .int i | .str x => .str x
  | .tup l => .tuple (pyAll l) | .lst l => .list (pyAll l) | .ty _ => .dict [] | .scr _ => .dict [] | .dic _ _ => .dict [] | .ref _ => .dict []
def pyAll : List D → List PyData
  | [] => [] | d :: r => py d :: pyAll r
end
mutual
/-- data without references, dicts -/
def plain : D → Bool
  | .non => true | .bl _ => true | .int _ => true | .str _ => true | .tup l => plainAll l | .lst l => plainAll l | .ty _ => false | .scr _ => false | .dic _ _ => false | .ref _ => false
def plainAll : List D → Bool
  | [] => true | d :: r => plain d && plainAll r
end
section
variable {w : Wd} {H : Hp}
mutual
theorem Rep.dp (sub : ∀ a o, w.F a = some o → H a = some o) : ∀ (d : D) {v : V}, Rep g w d v → plain d = true → Dp g.K H v (py d)
  | .non, _, r, _ => by simp only [Rep] at r; subst r; exact Dp.non
  | .bl b, _, r, _ => by simp only [Rep] at r; subst r; exact Dp.bl b
  | .int b, _, r, _ => by simp only [Rep] at r; subst r; exact Dp.int b
  | .str b, _, r, _ => by simp only [Rep] at r; subst r; exact Dp.str b
  | .tup l, _, r, p => by
    simp only [Rep] at r
    obtain ⟨a, vs, rfl, f, r⟩ := r
    exact Dp.tup (SqT.mono sub f.sq) (Reps.dp sub l r (by simpa [plain] using p))
  | .lst l, _, r, p => by
    simp only [Rep] at r
    obtain ⟨a, vs, rfl, f, r⟩ := r
    exact Dp.lst (SqL.of (sub _ _ f)) (Reps.dp sub l r (by simpa [plain] using p))
  | .ty _, _, _, p | .scr _, _, _, p | .dic _ _, _, _, p | .ref _, _, _, p => by simp [plain] at p
theorem Reps.dp (sub : ∀ a o, w.F a = some o → H a = some o) : ∀ (ds : List D) {vs : List V}, Reps g w ds vs → plainAll ds = true → DpAll g.K H vs (pyAll ds)
  | [], _, r, _ => by rw [r.of_nil]; exact DpAll.nil
  | d :: ds, _, r, p => by
    obtain ⟨v, vs, rfl, r1, r2⟩ := r.uncons
    have p' : plain d = true ∧ plainAll ds = true := by simpa [plainAll] using p
    exact DpAll.cons (Rep.dp sub d r1 p'.1) (Reps.dp sub ds r2 p'.2)
end
end
/-- a list of the store as it stands -/
def viewL (d : D) (h : MH) : D := match d with
  | .ref n => (match h[n]? with | some (.lst l) => .lst l | _ => .ref n) | d => d
theorem view_dp {w : Wd} {h : MH} {H : Hp} {d : D} {v : V} (s : SimH g w h H) (r : Rep g w d v) (p : plain (viewL d h) = true) : Dp g.K H v (py (viewL d h)) := by
  cases d with
  | ref n =>
    simp only [Rep] at r
    obtain ⟨a, rfl, m⟩ := r
    obtain ⟨o, ho, x⟩ := s.at_ m
    cases o with
    | lst l =>
      simp only [viewL, ho] at p ⊢
      obtain ⟨_, vs, f, r⟩ := x
      exact Dp.lst (SqL.of f) (Reps.dp s.sub l r (by simpa [plain] using p))
    | dic ks l => simp only [viewL, ho, plain] at p; cases p
    | ins c fs => simp only [viewL, ho, plain] at p; cases p
    | gone => simp only [viewL, ho, plain] at p; cases p
  | _ => exact Rep.dp s.sub _ r p
/-- == is told of -/
def eqOk (d : D) : Bool := plain d && SeqAt.shaped (py d)
def eqD (a b : D) : Bool := PyData.eqv (py a) (py b)
def gEq : O2 := fun a b h => if eqOk (viewL a h) && eqOk (viewL b h) then some (.bl (eqD (viewL a h) (viewL b h)), h) else none
def gNe : O2 := fun a b h => if eqOk (viewL a h) && eqOk (viewL b h) then some (.bl (!eqD (viewL a h) (viewL b h)), h) else none
theorem eqOk_ok {w : Wd} {h : MH} {H : Hp} {d : D} {v : V} (s : SimH g w h H) (r : Rep g w d v) (e : eqOk (viewL d h) = true) : Dp g.K H v (py (viewL d h)) ∧ SeqAt.shaped (py (viewL d h)) = true := by
  simp only [eqOk, Bool.and_eq_true] at e
  exact ⟨view_dp s r e.1, e.2⟩
theorem om_eq (hk : X.K = g.K) (hu : X.A.units + 64 < cLine) : OpM X g (compareOp .Eq) gEq := by
  rintro pins s σ H x y v u Q I rx ry ⟨w, h, a, b, sh, ra, rb, q⟩
  unfold gEq at q
  split at q
  · rename_i hz
    simp only [Bool.and_eq_true] at hz
    obtain ⟨d1, s1⟩ := eqOk_ok sh ra hz.1
    obtain ⟨d2, s2⟩ := eqOk_ok sh rb hz.2
    rw [← hk] at d1 d2
    exact op_eqD hu pins s σ H _ _ v u Q I rx ry ⟨_, _, d1, d2, s1, s2, q.here sh (rep_bl _)⟩
  · exact q.elim
theorem om_ne (hk : X.K = g.K) (hu : X.A.units + 64 < cLine) : OpM X g (compareOp .NotEq) gNe := by
  rintro pins s σ H x y v u Q I rx ry ⟨w, h, a, b, sh, ra, rb, q⟩
  unfold gNe at q
  split at q
  · rename_i hz
    simp only [Bool.and_eq_true] at hz
    obtain ⟨d1, s1⟩ := eqOk_ok sh ra hz.1
    obtain ⟨d2, s2⟩ := eqOk_ok sh rb hz.2
    rw [← hk] at d1 d2
    exact op_neD hu pins s σ H _ _ v u Q I rx ry ⟨_, _, d1, d2, s1, s2, q.here sh (rep_bl _)⟩
  · exact q.elim
/-- x is None -/
def isNon : D → Bool
  | .non => true | _ => false
def gIs : O2 := fun a b h => match b with
  | .non => some (.bl (isNon a), h) | _ => none
def gIsNot : O2 := fun a b h => match b with
  | .non => some (.bl (!isNon a), h) | _ => none
theorem isNon_ok {w : Wd} {d : D} {v : V} (r : Rep g w d v) : decide (v = V.non) = isNon d := by
  cases d <;> simp only [Rep] at r <;> first
    | (subst r; simp [isNon])
    | (obtain ⟨a, vs, rfl, _⟩ := r; simp [isNon])
    | (obtain ⟨a, rfl, _⟩ := r; simp [isNon])
theorem om_is : OpM X g (compareOp .Is) gIs := by
  rintro pins s σ H x y v u Q I rx ry ⟨w, h, a, b, sh, ra, rb, q⟩
  cases b with
  | non => cases rb.non; exact op_isN pins s σ H _ _ v u Q I rx ry ⟨rfl, by rw [isNon_ok ra]; exact q.here sh (rep_bl _)⟩
  | _ => exact q.elim
theorem om_isNot : OpM X g (compareOp .IsNot) gIsNot := by
  rintro pins s σ H x y v u Q I rx ry ⟨w, h, a, b, sh, ra, rb, q⟩
  cases b with
  | non => cases rb.non; exact op_notN pins s σ H _ _ v u Q I rx ry ⟨rfl, by rw [isNon_ok ra]; exact q.here sh (rep_bl _)⟩
  | _ => exact q.elim

/-! ### in -/
def rInT (K : PySem.W.Frag) : R2 := fun x y H Q => ∃ d ds, Dp K H x d ∧ Dp K H y (.tuple ds) ∧ SeqAt.shaped d = true ∧ SeqAt.shaped (.tuple ds) = true ∧ Q (.bl (ds.any fun z => PyData.eqv z d)) H
def rNotInT (K : PySem.W.Frag) : R2 := fun x y H Q => ∃ d ds, Dp K H x d ∧ Dp K H y (.tuple ds) ∧ SeqAt.shaped d = true ∧ SeqAt.shaped (.tuple ds) = true ∧ Q (.bl (!ds.any fun z => PyData.eqv z d)) H
theorem op_inT (hu : X.A.units + 65 < cLine) : OpR X (compareOp .In) (rInT X.K) := by
  intro pins s σ H x y v u Q I rx ry h
  obtain ⟨d, ds, hd, he, sd, se, q⟩ := h
  obtain ⟨as, r1⟩ := Dp.reads I d x v hd rx
  obtain ⟨bs, r2⟩ := Dp.reads I (.tuple ds) y u he ry
  exact SeqAt.in_tuple_reads r2 r1 (SeqAt.canLay_of_shaped se) (SeqAt.canLay_of_shaped sd) (room_in_shaped sd hu) ⟨.bl _, H, I, rfl, q⟩
theorem op_notInT (hu : X.A.units + 65 < cLine) : OpR X (compareOp .NotIn) (rNotInT X.K) := by
  intro pins s σ H x y v u Q I rx ry h
  obtain ⟨d, ds, hd, he, sd, se, q⟩ := h
  obtain ⟨as, r1⟩ := Dp.reads I d x v hd rx
  obtain ⟨bs, r2⟩ := Dp.reads I (.tuple ds) y u he ry
  exact SeqAt.notIn_tuple_reads r2 r1 (SeqAt.canLay_of_shaped se) (SeqAt.canLay_of_shaped sd) (room_in_shaped sd hu) ⟨.bl _, H, I, rfl, q⟩
def hasK : List Key → Key → Bool
  | k' :: ks, k => decide (k' = k) || hasK ks k
  | [], _ => false
theorem hasK_ok : ∀ {kvs : List (Key × V)} {k : Key}, (valV kvs k).isSome = hasK (kvs.map (·.1)) k
  | [], k => rfl
  | p :: kvs, k => by
    rw [List.map_cons, hasK]
    by_cases z : p.1 = k
    · rw [valV_pos z]; simp [z]
    · rw [valV_neg z, hasK_ok]; simp [z]
/-- is it in; none: not told -/
def inD (a b : D) (h : MH) : Option Bool := match b with
  | .str y => (match a with | .str x => (match x.cps.toList with | [c] => some (decide (c ∈ y.cps.toList)) | _ => none) | _ => none)
  | .tup l => if eqOk (viewL a h) && eqOk (.tup l) then some (l.any fun z => eqD z (viewL a h)) else none
  | b => (match dicOf b h with
    | some q => (keyOf a).map (hasK q.1)
    | none => (match lstOf b h with
      | some l => if eqOk (viewL a h) && eqOk (.lst l) then some (l.any fun z => eqD z (viewL a h)) else none
      | none => none))
def gIn : O2 := fun a b h => (inD a b h).map fun k => (.bl k, h)
def gNotIn : O2 := fun a b h => (inD a b h).map fun k => (.bl (!k), h)
theorem pyAll_any (f : PyData → Bool) : ∀ l : List D, (pyAll l).any f = l.any fun z => f (py z)
  | [] => rfl
  | d :: l => by simp [pyAll, pyAll_any f l]
theorem in_ok (hk : X.K = g.K) (hu : X.A.units + 65 < cLine) {pins : List (Addr × Obj)} {s : Shared} {σ : L2.St} {H : Hp} {x y : V} {v u : Value} {Q : VK} {w : Wd} {h : MH} {a b : D} {k : Bool} (I : Inv X pins σ H s) (rx : RelV x v) (ry : RelV y u) (sh : SimH g w h H) (ra : Rep g w a x) (rb : Rep g w b y)
    (e : inD a b h = some k) : (Q (.bl k) H → wpAny (model X.prog X.w) X.A (compareOp .In v u) (EP X pins σ Q) X.xe s) ∧ (Q (.bl (!k)) H → wpAny (model X.prog X.w) X.A (compareOp .NotIn v u) (EP X pins σ Q) X.xe s) := by
  have other : (match dicOf b h with
    | some q => (keyOf a).map (hasK q.1)
    | none => (match lstOf b h with
      | some l => if eqOk (viewL a h) && eqOk (.lst l) then some (l.any fun z => eqD z (viewL a h)) else none
      | none => none)) = some k → (Q (.bl k) H → wpAny (model X.prog X.w) X.A (compareOp .In v u) (EP X pins σ Q) X.xe s) ∧ (Q (.bl (!k)) H → wpAny (model X.prog X.w) X.A (compareOp .NotIn v u) (EP X pins σ Q) X.xe s) := fun e => by
    cases e1 : dicOf b h with
    | some q =>
      rw [e1] at e
      simp only at e
      cases e2 : keyOf a with
      | none => rw [e2] at e; cases e
      | some key =>
        rw [e2] at e
        simp only [Option.map_some, Option.some.injEq] at e
        obtain ⟨p, kvs, rfl, f, hks, r⟩ := dicOf_ok sh rb e1
        have ex := keyOf_ok ra e2
        subst ex
        cases ry
        have gg : DGet H p (kV key) (valV kvs key) := DGet.k f
        have eb : (valV kvs key).isSome = k := by rw [hasK_ok, hks, e]
        refine ⟨fun q' => d_in (by omega) I gg rx fun s3 I3 => ⟨.bl _, H, I3, rfl, by rw [eb]; exact q'⟩, fun q' => d_notIn (by omega) I gg rx fun s3 I3 => ⟨.bl _, H, I3, rfl, by rw [eb]; exact q'⟩⟩
    | none =>
      rw [e1] at e
      simp only at e
      cases e2 : lstOf b h with
      | none => rw [e2] at e; cases e
      | some l =>
        rw [e2] at e
        simp only at e
        split at e
        · rename_i hz
          simp only [Bool.and_eq_true] at hz
          simp only [Option.some.injEq] at e
          obtain ⟨d1, s1⟩ := eqOk_ok sh ra hz.1
          obtain ⟨p, vs, rfl, f, r⟩ := lstOf_ok sh rb e2
          have hz2 := hz.2
          simp only [eqOk, Bool.and_eq_true, plain] at hz2
          have d2 : Dp g.K H (.ref p) (.list (pyAll l)) := Dp.lst (SqL.of f) (Reps.dp sh.sub l r hz2.1)
          rw [← hk] at d1 d2
          have ek : ((pyAll l).any fun z => PyData.eqv z (py (viewL a h))) = k := by rw [pyAll_any]; exact e
          exact ⟨fun q' => op_inD hu pins s σ H _ _ v u Q I rx ry ⟨_, _, d1, d2, s1, hz2.2, by rw [ek]; exact q'⟩, fun q' => op_notInD hu pins s σ H _ _ v u Q I rx ry ⟨_, _, d1, d2, s1, hz2.2, by rw [ek]; exact q'⟩⟩
        · cases e
  cases b with
  | str yy =>
    cases a with
    | str xx =>
      cases ra.str; cases rb.str
      simp only [inD] at e
      split at e
      · rename_i c hc
        simp only [Option.some.injEq] at e
        have ex : xx = ⟨#[c]⟩ := by
          obtain ⟨cps⟩ := xx
          have : cps = #[c] := by
            have h2 : cps.toList = [c] := hc
            rw [← Array.toArray_toList (xs := cps), h2]
          rw [this]
        subst ex
        exact ⟨fun q' => op_in_sign pins s σ H _ _ v u Q I rx ry ⟨c, yy, rfl, rfl, by rw [e]; exact q'⟩, fun q' => op_notIn_sign pins s σ H _ _ v u Q I rx ry ⟨c, yy, rfl, rfl, by rw [e]; exact q'⟩⟩
      · cases e
    | _ => cases e
  | tup l =>
    simp only [inD] at e
    split at e
    · rename_i hz
      simp only [Bool.and_eq_true] at hz
      simp only [Option.some.injEq] at e
      obtain ⟨d1, s1⟩ := eqOk_ok sh ra hz.1
      have hz2 := hz.2
      simp only [eqOk, Bool.and_eq_true] at hz2
      have d2 := Rep.dp sh.sub _ rb hz2.1
      rw [← hk] at d1 d2
      have ek : ((pyAll l).any fun z => PyData.eqv z (py (viewL a h))) = k := by rw [pyAll_any]; exact e
      exact ⟨fun q' => op_inT hu pins s σ H _ _ v u Q I rx ry ⟨_, _, d1, d2, s1, hz2.2, by rw [ek]; exact q'⟩, fun q' => op_notInT hu pins s σ H _ _ v u Q I rx ry ⟨_, _, d1, d2, s1, hz2.2, by rw [ek]; exact q'⟩⟩
    · cases e
  | _ => exact other e
theorem om_in (hk : X.K = g.K) (hu : X.A.units + 65 < cLine) : OpM X g (compareOp .In) gIn := by
  rintro pins s σ H x y v u Q I rx ry ⟨w, h, a, b, sh, ra, rb, q⟩
  unfold gIn at q
  cases e : inD a b h with
  | none => rw [e] at q; exact q.elim
  | some k => rw [e] at q; exact (in_ok hk hu I rx ry sh ra rb e).1 (q.here sh (rep_bl _))
theorem om_notIn (hk : X.K = g.K) (hu : X.A.units + 65 < cLine) : OpM X g (compareOp .NotIn) gNotIn := by
  rintro pins s σ H x y v u Q I rx ry ⟨w, h, a, b, sh, ra, rb, q⟩
  unfold gNotIn at q
  cases e : inD a b h with
  | none => rw [e] at q; exact q.elim
  | some k => rw [e] at q; exact (in_ok hk hu I rx ry sh ra rb e).2 (q.here sh (rep_bl _))
end
end ML
set_option Elab.async false
set_option linter.all false
set_option maxRecDepth 100000
set_option maxHeartbeats 2000000
set_option autoImplicit false
/-! M: subscripts, slices, calls of what is built in. -/
namespace ML
open PySem PySem.Spec PyProof.Rows L2

/-! ### a[b] -/
def gIxO : O2 := fun a b h => match dicOf a h with
  | some q => ((keyOf b).bind (lookK q.1 q.2)).map fun d => (d, h)
  | none => match seqOf a h, b with
    | some l, .int i => (atI l i).map fun d => (d, h)
    | _, _ => none
def gIx : O2 := fun a b h => match a, b with
  | .str z, .int i => if z.length ≤ sizeLine then (atI z.cps.toList i).map fun c => (.str ⟨#[c]⟩, h) else none
  | a, b => gIxO a b h
theorem atI_idx {α : Type} {xs : List α} {i : Int} {v : α} (h : atI xs i = some v) : ∃ j, ixN xs.length i = some j ∧ xs[j]? = some v := by
  unfold atI at h
  cases e : ixN xs.length i with
  | none => rw [e] at h; cases h
  | some j => rw [e] at h; exact ⟨j, rfl, h⟩
theorem Reps.atI {g : Gd} {w : Wd} {l : List D} {vs : List V} (r : Reps g w l vs) {i : Int} {d : D} (e : L2.atI l i = some d) : ∃ v, L2.atI vs i = some v ∧ Rep g w d v := by
  obtain ⟨j, h1, h2⟩ := atI_idx e
  obtain ⟨v, h3, h4⟩ := r.get h2
  refine ⟨v, ?_, h4⟩
  unfold L2.atI
  rw [← r.length, h1]
  exact h3
section
variable {X : Cx} {g : Gd}
theorem ix_dict (hu : X.A.units + 1 < cLine) : IxR X (fun x y H Q => ∃ a v, x = .ref a ∧ DGet H a y (some v) ∧ Q v H) := by
  intro value slice pins s σ H x y v u Q I rx ry h hs
  obtain ⟨a, z, rfl, gg, q⟩ := h
  obtain rfl : v = Value.ref a := rx
  exact tail_any (dict_typeIs I gg) PySem.F.slot_dict_getitem.lookup (d_getItem hu I gg ry fun w' s3 I3 rw' => ⟨z, H, I3, rw', q⟩) hs
theorem or_ix (hk : X.K = g.K) (hu : X.A.units + 1 < cLine) : IxR X (rO2 g gIx) := by
  rintro value slice pins s σ H x y v u Q I rx ry ⟨w, h, a, b, sh, ra, rb, q⟩ hs
  have other : PostV g w (gIxO a b h) Q → wpAny (model X.prog X.w) X.A (subscriptTail value slice v u) (EP X pins σ Q) X.xe s := fun q => by
    unfold gIxO at q
    cases e1 : dicOf a h with
    | some z =>
      rw [e1] at q
      simp only at q
      cases e2 : keyOf b with
      | none => rw [e2] at q; exact q.elim
      | some key =>
        rw [e2] at q
        simp only [Option.bind_some] at q
        cases e3 : lookK z.1 z.2 key with
        | none => rw [e3] at q; exact q.elim
        | some d =>
          rw [e3] at q
          obtain ⟨p, kvs, rfl, f, hks, r⟩ := dicOf_ok sh ra e1
          have ey := keyOf_ok rb e2
          subst ey
          obtain ⟨vv, h1, h2⟩ := (lookK_ok (k := key) hks r).1 d e3
          exact ix_dict hu value slice pins s σ H _ _ v u Q I rx ry ⟨p, vv, rfl, by rw [← h1]; exact DGet.k f, q.here sh h2⟩ hs
    | none =>
      rw [e1] at q
      simp only at q
      cases e2 : seqOf a h with
      | none => rw [e2] at q; exact q.elim
      | some l =>
        rw [e2] at q
        cases b with
        | int i =>
          simp only at q
          cases e3 : L2.atI l i with
          | none => rw [e3] at q; exact q.elim
          | some d =>
            rw [e3] at q
            cases rb.int
            obtain ⟨p, vs, rfl, f, r⟩ := seqOf_ok sh ra e2
            obtain ⟨vv, h1, h2⟩ := r.atI e3
            rw [← hk] at f
            rcases f with f | f
            · exact ix_list value slice pins s σ H _ _ v u Q I rx ry ⟨p, vs, i, vv, rfl, rfl, f, h1, q.here sh h2⟩ hs
            · exact ix_tup value slice pins s σ H _ _ v u Q I rx ry ⟨p, vs, i, vv, rfl, rfl, f, h1, q.here sh h2⟩ hs
        | _ => exact q.elim
  cases a with
  | str z =>
    cases b with
    | int i =>
      simp only [gIx] at q
      split at q
      · rename_i hz
        cases e3 : L2.atI z.cps.toList i with
        | none => rw [e3] at q; exact q.elim
        | some c =>
          rw [e3] at q
          cases ra.str; cases rb.int
          exact ix_str value slice pins s σ H _ _ v u Q I rx ry ⟨z, i, c, rfl, rfl, hz, e3, q.here sh (rep_str _)⟩ hs
      · exact q.elim
    | _ => exact other q
  | _ => exact other q
theorem me_ix {W : WX} {p : Pn} {pos : Pos} {a b : Expr} {ma mb : ME} (hk : X.K = g.K) (hu : X.A.units + 1 < cLine) (ha : PE X a (RdE g W p ma)) (hb : PE X b (RdE g W p mb)) (hs : PlainIx b := by exact fun _ _ => rfl) : PE X (.Subscript a b pos) (RdE g W p (mBin gIx ma mb)) := by
  refine PE.imp (pe_ix (or_ix hk hu) ha hb hs) fun σ H Q ⟨w, ds, h, s, q⟩ => ?_
  refine RdG.mk s (PostG.bind s q fun w1 d h1 x H1 l1 s1 r1 q1 => ?_)
  refine RdG.mk s1 (PostG.bind s1 q1 fun w2 e h2 y H2 l2 s2 r2 q2 => ?_)
  exact ⟨w2, h2, d, e, s2.h, r1.mono l2, r2, PostV.of q2⟩
end

/-! ### a[lo:hi] -/
def cutL {α : Type} (xs : List α) (lo hi : Option Int) : List α := (xs.drop (HT.sIx xs.length 0 lo)).take (HT.sIx xs.length xs.length hi - HT.sIx xs.length 0 lo)
def gSl (d : D) (lo hi : Option Int) (h : MH) : Vr := match d with
  | .str z => if z.length ≤ sizeLine then some (.str (cutS z lo hi), h) else none
  | .tup l => some (.tup (cutL l lo hi), h)
  | .scr l => some (.lst (cutL l lo hi), h)
  | d => match lstOf d h with | some l => some (.lst (cutL l lo hi), h) | none => none
abbrev MO := Sl → MH → Res (Option Int)
def mNoPart : MO := fun _ h => .ok none h
def mPart (m : ME) : MO := fun ds h => (m ds h).bind fun d h1 => match d with | .int i => .ok (some i) h1 | _ => .stuck
abbrev RdO (g : Gd) (W : WX) (p : Pn) (m : MO) : TO := RdG g (fun _ (a b : Option Int) => a = b) W p m
def mSl (m : ME) (lo hi : MO) : ME := fun ds h => (m ds h).bind fun d h1 => (lo ds h1).bind fun a h2 => (hi ds h2).bind fun b h3 => Res.of (gSl d a b h3)
theorem Reps.cut {g : Gd} {w : Wd} {l : List D} {vs : List V} (r : Reps g w l vs) (lo hi : Option Int) : Reps g w (cutL l lo hi) (cutV vs lo hi) := by
  unfold cutL cutV
  rw [r.length]
  exact (r.drop _).take _
section
variable {X : Cx} {g : Gd} {W : WX} {p : Pn} {pos p2 : Pos} {e : Expr} {lo hi : Option Expr} {m : ME} {ml mh : MO}
theorem PO.imp {e : Option Expr} {t t' : TO} (h : PO X e t) (f : ∀ σ H Q, t' σ H Q → t σ H Q) : PO X e t' := ⟨fun pins s σ H Q I q => h.run pins s σ H Q I (f σ H Q q)⟩
theorem mo_none : PO X none (RdO g W p mNoPart) := PO.imp po_none fun σ H Q ⟨w, ds, h, s, q⟩ => q w none H (Le.refl w) s.h rfl
theorem mo_some (he : PE X e (RdE g W p m)) : PO X (some e) (RdO g W p (mPart m)) := by
  refine PO.imp (po_some he) fun σ H Q ⟨w, ds, h, s, q⟩ => ?_
  refine RdG.mk s (PostG.bind s q fun w1 d h1 x H1 l1 s1 r1 q1 => ?_)
  cases d with
  | int i => exact ⟨i, r1.int, q1 w1 (some i) H1 (Le.refl _) s1.h rfl⟩
  | _ => exact q1.elim
def rSl (g : Gd) : V → Option Int → Option Int → Hp → VK → Prop := fun x lo hi H Q => ∃ w h a, SimH g w h H ∧ Rep g w a x ∧ PostV g w (gSl a lo hi h) Q
theorem sl_m (hk : X.K = g.K) : SlR X (rSl g) := by
  rintro pins s σ H x v vl vu lo hi sl Q I rx hs pl pu ⟨w, h, a, sh, ra, q⟩
  have other : PostV g w (match lstOf a h with | some l => some (.lst (cutL l lo hi), h) | none => none) Q → ∃ T id, typeLookup (.type T) "__getitem__" = pure (some (.builtin id)) ∧ s.TypeIs v T ∧ wpAny (model X.prog X.w) X.A (getItem v (.ref sl)) (EP X pins σ Q) X.xe s := fun q => by
    cases e1 : lstOf a h with
    | none => rw [e1] at q; exact q.elim
    | some l =>
      rw [e1] at q
      obtain ⟨a, vs, rfl, f, r⟩ := lstOf_ok sh ra e1
      exact sl_list pins s σ H _ v vl vu lo hi sl Q I rx hs pl pu ⟨a, vs, rfl, SqL.of f, q.lst sh (r.cut lo hi)⟩
  cases a with
  | str z =>
    cases ra.str
    simp only [gSl] at q
    split at q
    · rename_i hz
      exact sl_str pins s σ H _ v vl vu lo hi sl Q I rx hs pl pu ⟨z, rfl, hz, q.here sh (rep_str _)⟩
    · exact q.elim
  | tup l =>
    simp only [Rep] at ra
    obtain ⟨a, vs, rfl, f, r⟩ := ra
    refine sl_tupF pins s σ H _ v vl vu lo hi sl Q I rx hs pl pu ⟨a, vs, rfl, by rw [hk]; exact SqT.mono sh.sub f.sq, fun e => ?_, fun _ => q.tup sh (r.cut lo hi)⟩
    have ec : cutL l lo hi = l := by
      unfold cutL
      rw [r.length, e.1, e.2]
      rw [List.drop_zero, Nat.sub_zero, ← r.length, List.take_length]
    refine q.here sh ?_
    rw [ec]
    simp only [Rep]
    exact ⟨a, vs, rfl, f, r⟩
  | scr l =>
    simp only [Rep] at ra
    obtain ⟨a, vs, rfl, f, r⟩ := ra
    exact sl_list pins s σ H _ v vl vu lo hi sl Q I rx hs pl pu ⟨a, vs, rfl, by rw [hk]; exact SqL.mono sh.sub f, q.lst sh (r.cut lo hi)⟩
  | _ => exact other q
theorem me_slice (hk : X.K = g.K) (he : PE X e (RdE g W p m)) (hl : PO X lo (RdO g W p ml)) (hu : PO X hi (RdO g W p mh)) : PE X (.Subscript e (.Slice lo hi none p2) pos) (RdE g W p (mSl m ml mh)) := by
  refine PE.imp (pe_slice (sl_m hk) he hl hu) fun σ H Q ⟨w, ds, h, s, q⟩ => ?_
  refine RdG.mk s (PostG.bind s q fun w1 d h1 x H1 l1 s1 r1 q1 => ?_)
  refine RdG.mk s1 (PostG.bind s1 q1 fun w2 a h2 y H2 l2 s2 r2 q2 => ?_)
  refine RdG.mk s2 (PostG.bind s2 q2 fun w3 b h3 z H3 l3 s3 r3 q3 => ?_)
  subst r2 r3
  exact ⟨w3, h3, d, s3.h, (r1.mono l2).mono l3, PostV.of q3⟩
end

/-! ### calls of what is built in -/
abbrev C1 := List D → MH → Vr
def rC (g : Gd) (m : C1) : List V → Hp → VK → Prop := fun vs H Q => ∃ w h l, SimH g w h H ∧ Reps g w l vs ∧ PostV g w (m l h) Q
def CallM (X : Cx) (g : Gd) (f : Value) (m : C1) : Prop := CallR X f (rC g m)
def mCB (m : C1) (ma : MA) : ME := fun ds h => (ma ds h).bind fun l h1 => Res.of (m l h1)
section
variable {X : Cx} {g : Gd} {W : WX} {p : Pn} {pos pp : Pos} {e : Expr} {es : List Expr} {ma : MA} {m : C1} {x : Str} {bid T : String}
theorem RdE.cb {σ : L2.St} {H : Hp} {Q : VK} (h : RdE g W p (mCB m ma) σ H Q) : tCB (rC g m) (RdA g W p ma) σ H Q := by
  obtain ⟨w, ds, h, s, q⟩ := h
  refine RdG.mk s (PostG.bind s q fun w1 l h1 vs H1 l1 s1 r1 q1 => ?_)
  exact ⟨w1, h1, l, s1.h, r1, PostV.of q1⟩
theorem me_callB (hc : CallM X g (.builtin bid) m) (hv : bootBuiltins x = some (.builtin bid)) (hm : X.mg x = none) (ha : PA X (e :: es) (RdA g W p ma)) (hg : Gl X x := by rfl) (hn : x ≠ "__name__" := by decide) (hdb : (x == ("__debug__" : Str)) = false := by decide)
    (he : starEach (e :: es) X.env = (false, eval e X.env) :: starEach es X.env := by rfl) (hpl : (backTo pos (starEach es X.env)).any (·.1) = false := by rfl) : PE X (.Call (.Name x pp) (e :: es) [] pos) (RdE g W p (mCB m ma)) :=
  PE.imp (pe_callB hc hg hm hv ha hn hdb he hpl) fun σ H Q h => RdE.cb h
theorem me_callTy (hc : CallM X g (.type T) m) (hv : bootBuiltins x = some (.type T)) (hm : X.mg x = none) (ha : PA X (e :: es) (RdA g W p ma)) (hg : Gl X x := by rfl) (hn : x ≠ "__name__" := by decide) (hdb : (x == ("__debug__" : Str)) = false := by decide)
    (he : starEach (e :: es) X.env = (false, eval e X.env) :: starEach es X.env := by rfl) (hpl : (backTo pos (starEach es X.env)).any (·.1) = false := by rfl) : PE X (.Call (.Name x pp) (e :: es) [] pos) (RdE g W p (mCB m ma)) :=
  PE.imp (pe_callTy hc hg hm hv ha hn hdb he hpl) fun σ H Q h => RdE.cb h
theorem Reps.one {w : Wd} {d : D} {vs : List V} (r : Reps g w [d] vs) : ∃ v, vs = [v] ∧ Rep g w d v := by
  obtain ⟨v, r', rfl, h1, h2⟩ := r.uncons
  rw [h2.of_nil]
  exact ⟨v, rfl, h1⟩
theorem Reps.two {w : Wd} {d e : D} {vs : List V} (r : Reps g w [d, e] vs) : ∃ v u, vs = [v, u] ∧ Rep g w d v ∧ Rep g w e u := by
  obtain ⟨v, r', rfl, h1, h2⟩ := r.uncons
  obtain ⟨u, rfl, h3⟩ := h2.one
  exact ⟨v, u, rfl, h1, h3⟩
/-! len -/
def cLen : C1 := fun l h => match l with
  | [.str z] => if z.length ≤ sizeLine then some (.int z.length, h) else none
  | [d] => (match dicOf d h with
    | some q => some (.int q.1.length, h)
    | none => (match seqOf d h with | some l => some (.int l.length, h) | none => none))
  | _ => none
theorem cm_len (hk : X.K = g.K) : CallM X g (.builtin "len") cLen := by
  rintro pins s σ H vs us Q I rs ⟨w, h, l, sh, r, q⟩
  match l with
  | [] => exact q.elim
  | _ :: _ :: _ => simp only [cLen] at q; exact q.elim
  | [d] =>
    obtain ⟨v, rfl, r1⟩ := r.one
    have other : PostV g w (match dicOf d h with
      | some q => some (.int q.1.length, h)
      | none => (match seqOf d h with | some l => some (.int l.length, h) | none => none)) Q → wpAny (model X.prog X.w) X.A (call (.builtin "len") us) (EP X pins σ Q) X.xe s := fun q => by
      cases e1 : dicOf d h with
      | some z =>
        rw [e1] at q
        obtain ⟨a, kvs, rfl, f, k, r2⟩ := dicOf_ok sh r1 e1
        rw [Vals.ref1 rs]
        refine d_len I (.inl f) fun t s' I' => ⟨.int kvs.length, H, I', ⟨t, rfl⟩, ?_⟩
        have e2 : z.1.length = kvs.length := by rw [← k, List.length_map]
        rw [← e2]
        exact q.here sh (rep_int _)
      | none =>
        rw [e1] at q
        simp only at q
        cases e2 : seqOf d h with
        | none => rw [e2] at q; exact q.elim
        | some l =>
          rw [e2] at q
          obtain ⟨a, vs, rfl, f, r2⟩ := seqOf_ok sh r1 e2
          rw [← hk] at f
          exact call_len_seq pins s σ H _ us Q I rs ⟨a, vs, rfl, f, by rw [← r2.length]; exact q.here sh (rep_int _)⟩
    cases d with
    | str z =>
      cases r1.str
      simp only [cLen] at q
      split at q
      · rename_i hz
        exact call_len_str pins s σ H _ us Q I rs ⟨z, rfl, hz, q.here sh (rep_int _)⟩
      · exact q.elim
    | _ => exact other q
/-! all, any -/
def blsOf : List D → Option (List Bool)
  | [] => some []
  | .bl b :: r => (blsOf r).map (b :: ·)
  | _ => none
def intsOf : List D → Option (List Int)
  | [] => some []
  | .int b :: r => (intsOf r).map (b :: ·)
  | _ => none
def strsOf : List D → Option (List Str)
  | [] => some []
  | .str b :: r => (strsOf r).map (b :: ·)
  | _ => none
theorem blsOf_ok {w : Wd} : ∀ {l : List D} {bs : List Bool} {vs : List V}, blsOf l = some bs → Reps g w l vs → vs = bs.map V.bl
  | [], bs, vs, e, r => by
    simp only [blsOf, Option.some.injEq] at e; subst e
    rw [r.of_nil] <;> rfl
  | d :: l, bs, vs, e, r => by
    obtain ⟨v, vs, rfl, h1, h2⟩ := r.uncons
    cases d with
    | bl b =>
      simp only [blsOf] at e
      cases e2 : blsOf l with
      | none => rw [e2] at e; cases e
      | some bs' =>
        rw [e2] at e
        simp only [Option.map_some, Option.some.injEq] at e; subst e
        rw [blsOf_ok e2 h2, h1.bl] <;> rfl
    | _ => cases e
theorem intsOf_ok {w : Wd} : ∀ {l : List D} {bs : List Int} {vs : List V}, intsOf l = some bs → Reps g w l vs → vs = bs.map V.int
  | [], bs, vs, e, r => by
    simp only [intsOf, Option.some.injEq] at e; subst e
    rw [r.of_nil] <;> rfl
  | d :: l, bs, vs, e, r => by
    obtain ⟨v, vs, rfl, h1, h2⟩ := r.uncons
    cases d with
    | int b =>
      simp only [intsOf] at e
      cases e2 : intsOf l with
      | none => rw [e2] at e; cases e
      | some bs' =>
        rw [e2] at e
        simp only [Option.map_some, Option.some.injEq] at e; subst e
        rw [intsOf_ok e2 h2, h1.int] <;> rfl
    | _ => cases e
theorem strsOf_ok {w : Wd} : ∀ {l : List D} {bs : List Str} {vs : List V}, strsOf l = some bs → Reps g w l vs → vs = bs.map V.str
  | [], bs, vs, e, r => by
    simp only [strsOf, Option.some.injEq] at e; subst e
    rw [r.of_nil] <;> rfl
  | d :: l, bs, vs, e, r => by
    obtain ⟨v, vs, rfl, h1, h2⟩ := r.uncons
    cases d with
    | str b =>
      simp only [strsOf] at e
      cases e2 : strsOf l with
      | none => rw [e2] at e; cases e
      | some bs' =>
        rw [e2] at e
        simp only [Option.map_some, Option.some.injEq] at e; subst e
        rw [strsOf_ok e2 h2, h1.str] <;> rfl
    | _ => cases e
theorem rep_ints {w : Wd} : ∀ ns : List Int, Reps g w (ns.map D.int) (ns.map V.int)
  | [] => .nil
  | n :: ns => .cons (rep_int n) (rep_ints ns)
theorem rep_strs {w : Wd} : ∀ ns : List Str, Reps g w (ns.map D.str) (ns.map V.str)
  | [] => .nil
  | n :: ns => .cons (rep_str n) (rep_strs ns)
def cAll : C1 := fun l h => match l with
  | [d] => (match (lstOf d h).bind blsOf with | some bs => some (.bl (bs.all id), h) | none => none)
  | _ => none
def cAny : C1 := fun l h => match l with
  | [d] => (match (lstOf d h).bind blsOf with | some bs => some (.bl (bs.any id), h) | none => none)
  | _ => none
theorem cm_all (hc : X.calm = true) : CallM X g (.builtin "all") cAll := by
  rintro pins s σ H vs us Q I rs ⟨w, h, l, sh, r, q⟩
  match l with
  | [] => exact q.elim
  | _ :: _ :: _ => exact q.elim
  | [d] =>
    obtain ⟨v, rfl, r1⟩ := r.one
    simp only [cAll] at q
    cases e1 : lstOf d h with
    | none => rw [e1] at q; exact q.elim
    | some l =>
      rw [e1] at q
      simp only [Option.bind_some] at q
      cases e2 : blsOf l with
      | none => rw [e2] at q; exact q.elim
      | some bs =>
        rw [e2] at q
        obtain ⟨a, vs, rfl, f, r2⟩ := lstOf_ok sh r1 e1
        have ev := blsOf_ok e2 r2
        subst ev
        exact cr_all hc pins s σ H _ us Q I rs ⟨a, bs, rfl, SqL.of f, q.here sh (rep_bl _)⟩
theorem cm_any (hc : X.calm = true) : CallM X g (.builtin "any") cAny := by
  rintro pins s σ H vs us Q I rs ⟨w, h, l, sh, r, q⟩
  match l with
  | [] => exact q.elim
  | _ :: _ :: _ => exact q.elim
  | [d] =>
    obtain ⟨v, rfl, r1⟩ := r.one
    simp only [cAny] at q
    cases e1 : lstOf d h with
    | none => rw [e1] at q; exact q.elim
    | some l =>
      rw [e1] at q
      simp only [Option.bind_some] at q
      cases e2 : blsOf l with
      | none => rw [e2] at q; exact q.elim
      | some bs =>
        rw [e2] at q
        obtain ⟨a, vs, rfl, f, r2⟩ := lstOf_ok sh r1 e1
        have ev := blsOf_ok e2 r2
        subst ev
        exact cr_any hc pins s σ H _ us Q I rs ⟨a, bs, rfl, SqL.of f, q.here sh (rep_bl _)⟩
/-! sum, max, min of lists of ints -/
def maxI : List Int → Int
  | [] => 0 | [x] => x | x :: y :: r => max x (maxI (y :: r))
theorem maxI_ge : ∀ (l : List Int), ∀ y ∈ l, y ≤ maxI l
  | [], y, h => by cases h
  | [x], y, h => by simp at h; subst h; simp [maxI]
  | x :: z :: r, y, h => by
    simp only [maxI]
    rcases List.mem_cons.mp h with e | e
    · subst e; exact Int.le_max_left _ _
    · exact Int.le_trans (maxI_ge (z :: r) y e) (Int.le_max_right _ _)
theorem maxI_eq {l : List Int} {m : Int} (h1 : m ∈ l) (h2 : ∀ y ∈ l, y ≤ m) : m = maxI l := by
  refine Int.le_antisymm (maxI_ge l m h1) ?_
  have : ∀ l : List Int, l ≠ [] → maxI l ∈ l := by
    intro l
    induction l with
    | nil => intro h; exact absurd rfl h
    | cons x r ih =>
      intro _
      cases r with
      | nil => simp [maxI]
      | cons y r =>
        simp only [maxI]
        have := ih (by simp)
        rcases Int.le_total x (maxI (y :: r)) with e | e
        · rw [Int.max_eq_right e]; exact List.mem_cons_of_mem _ this
        · rw [Int.max_eq_left e]; exact List.mem_cons_self
  exact h2 _ (this l (by intro e; subst e; cases h1))
def minI : List Int → Int
  | [] => 0 | [x] => x | x :: y :: r => min x (minI (y :: r))
theorem minI_le : ∀ (l : List Int), ∀ y ∈ l, minI l ≤ y
  | [], y, h => by cases h
  | [x], y, h => by simp at h; subst h; simp [minI]
  | x :: z :: r, y, h => by
    simp only [minI]
    rcases List.mem_cons.mp h with e | e
    · subst e; exact Int.min_le_left _ _
    · exact Int.le_trans (Int.min_le_right _ _) (minI_le (z :: r) y e)
theorem minI_eq {l : List Int} {m : Int} (h1 : m ∈ l) (h2 : ∀ y ∈ l, m ≤ y) : m = minI l := by
  refine Int.le_antisymm ?_ (minI_le l m h1)
  have : ∀ l : List Int, l ≠ [] → minI l ∈ l := by
    intro l
    induction l with
    | nil => intro h; exact absurd rfl h
    | cons x r ih =>
      intro _
      cases r with
      | nil => simp [minI]
      | cons y r =>
        simp only [minI]
        have := ih (by simp)
        rcases Int.le_total x (minI (y :: r)) with e | e
        · rw [Int.min_eq_left e]; exact List.mem_cons_self
        · rw [Int.min_eq_right e]; exact List.mem_cons_of_mem _ this
  exact h2 _ (this l (by intro e; subst e; cases h1))
def cSum : C1 := fun l h => match l with
  | [d] => (match (lstOf d h).bind intsOf with | some bs => some (.int bs.sum, h) | none => none)
  | _ => none
def cMax : C1 := fun l h => match l with
  | [.int i, .int j] => some (.int (if j > i then j else i), h)
  | [d] => (match (lstOf d h).bind intsOf with | some (b :: bs) => some (.int (maxI (b :: bs)), h) | _ => none)
  | _ => none
def cMin : C1 := fun l h => match l with
  | [.int i, .int j] => some (.int (if j < i then j else i), h)
  | [d] => (match (lstOf d h).bind intsOf with | some (b :: bs) => some (.int (minI (b :: bs)), h) | _ => none)
  | _ => none
theorem cm_sum (hc : X.calm = true) : CallM X g (.builtin "sum") cSum := by
  rintro pins s σ H vs us Q I rs ⟨w, h, l, sh, r, q⟩
  match l with
  | [] => exact q.elim
  | _ :: _ :: _ => exact q.elim
  | [d] =>
    obtain ⟨v, rfl, r1⟩ := r.one
    simp only [cSum] at q
    cases e1 : lstOf d h with
    | none => rw [e1] at q; exact q.elim
    | some l =>
      rw [e1] at q
      simp only [Option.bind_some] at q
      cases e2 : intsOf l with
      | none => rw [e2] at q; exact q.elim
      | some bs =>
        rw [e2] at q
        obtain ⟨a, vs, rfl, f, r2⟩ := lstOf_ok sh r1 e1
        have ev := intsOf_ok e2 r2
        subst ev
        exact cr_sum hc pins s σ H _ us Q I rs ⟨a, bs, rfl, SqL.of f, q.here sh (rep_int _)⟩
theorem cm_max (hc : X.calm = true) : CallM X g (.builtin "max") cMax := by
  rintro pins s σ H vs us Q I rs ⟨w, h, l, sh, r, q⟩
  match l with
  | [] => exact q.elim
  | [d] =>
    obtain ⟨v, rfl, r1⟩ := r.one
    simp only [cMax] at q
    cases e1 : lstOf d h with
    | none => rw [e1] at q; exact q.elim
    | some l =>
      rw [e1] at q
      simp only [Option.bind_some] at q
      cases e2 : intsOf l with
      | none => rw [e2] at q; exact q.elim
      | some bs =>
        rw [e2] at q
        cases bs with
        | nil => exact q.elim
        | cons b bs =>
          obtain ⟨a, vs, rfl, f, r2⟩ := lstOf_ok sh r1 e1
          have ev := intsOf_ok e2 r2
          subst ev
          exact cr_max hc pins s σ H _ us Q I rs ⟨a, b :: bs, rfl, SqL.of f, by simp, fun m h1 h2 => by rw [maxI_eq h1 h2]; exact q.here sh (rep_int _)⟩
  | [a, b] =>
    obtain ⟨v, u, rfl, r1, r2⟩ := r.two
    cases a with
    | int i =>
      cases b with
      | int j =>
        cases r1.int; cases r2.int
        exact call_max2 hc pins s σ H _ us Q I rs ⟨i, j, rfl, q.here sh (rep_int _)⟩
      | _ => exact q.elim
    | _ => exact q.elim
  | _ :: _ :: _ :: _ => simp only [cMax] at q; exact q.elim
theorem cm_min (hc : X.calm = true) : CallM X g (.builtin "min") cMin := by
  rintro pins s σ H vs us Q I rs ⟨w, h, l, sh, r, q⟩
  match l with
  | [] => exact q.elim
  | [d] =>
    obtain ⟨v, rfl, r1⟩ := r.one
    simp only [cMin] at q
    cases e1 : lstOf d h with
    | none => rw [e1] at q; exact q.elim
    | some l =>
      rw [e1] at q
      simp only [Option.bind_some] at q
      cases e2 : intsOf l with
      | none => rw [e2] at q; exact q.elim
      | some bs =>
        rw [e2] at q
        cases bs with
        | nil => exact q.elim
        | cons b bs =>
          obtain ⟨a, vs, rfl, f, r2⟩ := lstOf_ok sh r1 e1
          have ev := intsOf_ok e2 r2
          subst ev
          exact cr_min hc pins s σ H _ us Q I rs ⟨a, b :: bs, rfl, SqL.of f, by simp, fun m h1 h2 => by rw [minI_eq h1 h2]; exact q.here sh (rep_int _)⟩
  | [a, b] =>
    obtain ⟨v, u, rfl, r1, r2⟩ := r.two
    cases a with
    | int i =>
      cases b with
      | int j =>
        cases r1.int; cases r2.int
        exact call_min2 hc pins s σ H _ us Q I rs ⟨i, j, rfl, q.here sh (rep_int _)⟩
      | _ => exact q.elim
    | _ => exact q.elim
  | _ :: _ :: _ :: _ => simp only [cMin] at q; exact q.elim
end
end ML
set_option Elab.async false
set_option linter.all false
set_option maxRecDepth 100000
set_option maxHeartbeats 2000000
set_option autoImplicit false
/-! M: more of what is built in: list, tuple, dict, sorted, int, str, divmod, isinstance, methods, f-strings. -/
namespace ML
open PySem PySem.Spec PyProof.Rows L2
section
variable {X : Cx} {g : Gd}
/-! ### tuple(x), list(x), dict(x) -/
def cTuple : C1 := fun l h => match l with
  | [.tup l] => some (.tup l, h)
  | [d] => (match lstOf d h with | some l => some (.tup l, h) | none => none)
  | _ => none
theorem cm_tuple (hk : X.K = g.K) : CallM X g (.type "tuple") cTuple := by
  rintro pins s σ H vs us Q I rs ⟨w, h, l, sh, r, q⟩
  match l with
  | [] => exact q.elim
  | _ :: _ :: _ => simp only [cTuple] at q; exact q.elim
  | [d] =>
    obtain ⟨v, rfl, r1⟩ := r.one
    have other : PostV g w (match lstOf d h with | some l => some (.tup l, h) | none => none) Q → wpAny (model X.prog X.w) X.A (call (.type "tuple") us) (EP X pins σ Q) X.xe s := fun q => by
      cases e1 : lstOf d h with
      | none => rw [e1] at q; exact q.elim
      | some l =>
        rw [e1] at q
        obtain ⟨a, vs, rfl, f, r2⟩ := lstOf_ok sh r1 e1
        exact call_tupleF pins s σ H _ us Q I rs ⟨a, vs, rfl, .inl ⟨SqL.of f, q.tup sh r2⟩⟩
    cases d with
    | tup l =>
      have r0 := r1
      simp only [Rep] at r1
      obtain ⟨a, vs, rfl, f, r2⟩ := r1
      exact call_tupleF pins s σ H _ us Q I rs ⟨a, vs, rfl, .inr ⟨by rw [hk]; exact SqT.mono sh.sub f.sq, q.here sh r0⟩⟩
    | _ => exact other q
/-- the keys as data -/
def dK : Key → D
  | .inl i => .int i | .inr x => .str x
theorem rep_keys {w : Wd} : ∀ ks : List Key, Reps g w (ks.map dK) (ks.map kV)
  | [] => .nil
  | .inl i :: ks => .cons (rep_int i) (rep_keys ks)
  | .inr i :: ks => .cons (rep_str i) (rep_keys ks)
def listIt (d : D) (h : MH) : Option (List D) := match dicOf d h with
  | some q => some (q.1.map dK) | none => seqOf d h
theorem listIt_ok (hc : X.calm = true) (hk : X.K = g.K) {pins : List (Addr × Obj)} {s : Shared} {σ : L2.St} {H : Hp} {us : List Value} {Q : VK} {w : Wd} {h : MH} {d : D} {l : List D} {vs : List V} (I : Inv X pins σ H s) (rs : Vals vs us) (sh : SimH g w h H) (r : Reps g w [d] vs) (e : listIt d h = some l)
    (q : ∀ vs, Reps g w l vs → ∀ p, H p = none → Q (.ref p) (upd H p (.lst vs))) : wpAny (model X.prog X.w) X.A (call (.type "list") us) (EP X pins σ Q) X.xe s := by
  obtain ⟨v, rfl, r1⟩ := r.one
  unfold listIt at e
  cases e1 : dicOf d h with
  | some z =>
    rw [e1] at e
    simp only [Option.some.injEq] at e
    subst e
    obtain ⟨a, kvs, rfl, f, k, r2⟩ := dicOf_ok sh r1 e1
    refine call_listD hc pins s σ H _ us Q I rs ⟨a, kvs, rfl, .inl f, ?_⟩
    have e2 : (kvs.map fun kv => kV kv.1) = z.1.map kV := by rw [← k, List.map_map]; rfl
    rw [e2]
    exact q _ (rep_keys _)
  | none =>
    rw [e1] at e
    obtain ⟨a, vs, rfl, f, r2⟩ := seqOf_ok sh r1 e
    exact call_list_of pins s σ H _ us Q I rs ⟨a, vs, rfl, by rw [hk]; exact f, q vs r2⟩
def cList : C1 := fun l h => match l with
  | [d] => (match listIt d h with | some l => some (.lst l, h) | none => none) | _ => none
/-- one that comes to be changed -/
def cListN : C1 := fun l h => match l with
  | [d] => (match listIt d h with | some l => some (.ref h.length, h ++ [.lst l]) | none => none) | _ => none
theorem PostV.lstN {w : Wd} {h : MH} {H : Hp} {l : List D} {vs : List V} {Q : VK} (q : PostV g w (some (.ref h.length, h ++ [.lst l])) Q) (s : SimH g w h H) (r : Reps g w l vs) : ∀ p, H p = none → Q (.ref p) (upd H p (.lst vs)) := fun p hp => by
  obtain ⟨l2, s2, r2⟩ := listedN s r hp
  exact q _ _ _ l2 s2 r2
theorem cm_list (hc : X.calm = true) (hk : X.K = g.K) : CallM X g (.type "list") cList := by
  rintro pins s σ H vs us Q I rs ⟨w, h, l, sh, r, q⟩
  match l with
  | [] => exact q.elim
  | _ :: _ :: _ => exact q.elim
  | [d] =>
    simp only [cList] at q
    cases e : listIt d h with
    | none => rw [e] at q; exact q.elim
    | some l => rw [e] at q; exact listIt_ok hc hk I rs sh r e fun vs r2 => q.lst sh r2
theorem cm_listN (hc : X.calm = true) (hk : X.K = g.K) : CallM X g (.type "list") cListN := by
  rintro pins s σ H vs us Q I rs ⟨w, h, l, sh, r, q⟩
  match l with
  | [] => exact q.elim
  | _ :: _ :: _ => exact q.elim
  | [d] =>
    simp only [cListN] at q
    cases e : listIt d h with
    | none => rw [e] at q; exact q.elim
    | some l => rw [e] at q; exact listIt_ok hc hk I rs sh r e fun vs r2 => q.lstN sh r2
/-- pairs of data: keys, values -/
abbrev KD := List (Key × D)
def putP (kds : KD) (k : Key) (d : D) : KD := if (kds.any fun kv => decide (kv.1 = k)) = true then kds.map (fun kv => if kv.1 = k then (kv.1, d) else kv) else kds ++ [(k, d)]
def mergeP (kds more : KD) : KD := more.foldl (fun acc kv => putP acc kv.1 kv.2) kds
def mkDic (kds : KD) : D := .dic (kds.map (·.1)) (kds.map (·.2))
/-- pairs and their values -/
def RepP (g : Gd) (w : Wd) (kds : KD) (kvs : List (Key × V)) : Prop := kvs.map (·.1) = kds.map (·.1) ∧ Reps g w (kds.map (·.2)) (kvs.map (·.2))
theorem RepP.nil {w : Wd} : RepP g w [] [] := ⟨rfl, .nil⟩
theorem RepP.uncons {w : Wd} {k : Key} {d : D} {kds : KD} {kvs : List (Key × V)} (h : RepP g w ((k, d) :: kds) kvs) : ∃ v r, kvs = (k, v) :: r ∧ Rep g w d v ∧ RepP g w kds r := by
  obtain ⟨h1, h2⟩ := h
  cases kvs with
  | nil => simp at h1
  | cons p r =>
    obtain ⟨k', v⟩ := p
    simp only [List.map_cons, List.cons.injEq] at h1 h2
    obtain ⟨v', r', e, a, b⟩ := h2.uncons
    cases e
    obtain ⟨rfl, h1⟩ := h1
    exact ⟨v, r, rfl, a, h1, b⟩
theorem RepP.of_nil {w : Wd} {kvs : List (Key × V)} (h : RepP g w [] kvs) : kvs = [] := by
  have := h.1
  simpa using this
theorem RepP.cons {w : Wd} {k : Key} {d : D} {v : V} {kds : KD} {kvs : List (Key × V)} (h1 : Rep g w d v) (h : RepP g w kds kvs) : RepP g w ((k, d) :: kds) ((k, v) :: kvs) := ⟨by simp [h.1], by simpa using Reps.cons h1 h.2⟩
theorem RepP.any {w : Wd} {k : Key} : ∀ {kds : KD} {kvs : List (Key × V)}, RepP g w kds kvs → (kvs.any fun kv => decide (kv.1 = k)) = (kds.any fun kv => decide (kv.1 = k))
  | [], _, h => by rw [h.of_nil] <;> rfl
  | (k', d) :: kds, _, h => by
    obtain ⟨v, r, rfl, _, h2⟩ := h.uncons
    simp only [List.any_cons, RepP.any h2]
theorem RepP.sub {w : Wd} {k : Key} {d : D} {v : V} (hd : Rep g w d v) : ∀ {kds : KD} {kvs : List (Key × V)}, RepP g w kds kvs → RepP g w (kds.map fun kv => if kv.1 = k then (kv.1, d) else kv) (kvs.map fun kv => if kv.1 = k then (kv.1, v) else kv)
  | [], _, h => by rw [h.of_nil]; exact .nil
  | (k', e) :: kds, _, h => by
    obtain ⟨u, r, rfl, h1, h2⟩ := h.uncons
    rw [List.map_cons, List.map_cons]
    by_cases z : k' = k
    · simp only [z, if_true]; exact .cons hd (RepP.sub hd h2)
    · simp only [z, if_false]; exact .cons h1 (RepP.sub hd h2)
theorem RepP.put {w : Wd} {k : Key} {d : D} {v : V} (hd : Rep g w d v) {kds : KD} {kvs : List (Key × V)} (h : RepP g w kds kvs) : RepP g w (putP kds k d) (putK kvs k v) := by
  unfold putP putK
  rw [h.any]
  split
  · exact RepP.sub hd h
  · exact ⟨by simp [h.1], by simpa using h.2.append (.cons hd .nil)⟩
theorem RepP.merge {w : Wd} : ∀ {more : KD} {kmore : List (Key × V)} {kds : KD} {kvs : List (Key × V)}, RepP g w more kmore → RepP g w kds kvs → RepP g w (mergeP kds more) (mergeK kvs kmore)
  | [], _, _, _, h, t => by rw [h.of_nil]; exact t
  | (k, d) :: more, _, _, _, h, t => by
    obtain ⟨v, r, rfl, h1, h2⟩ := h.uncons
    show RepP g w (mergeP (putP _ k d) more) (mergeK (putK _ k v) r)
    exact RepP.merge h2 (RepP.put h1 t)
def pairsOf : List D → Option KD
  | [] => some []
  | .tup [k, v] :: r => (keyOf k).bind fun key => (pairsOf r).map ((key, v) :: ·)
  | _ => none
theorem pairsOf_ok {w : Wd} {h : MH} {H : Hp} (sh : SimH g w h H) : ∀ {l : List D} {kds : KD} {vs : List V}, pairsOf l = some kds → Reps g w l vs →
    ∃ (ps : List Addr) (kvs : List (Key × V)), vs = ps.map V.ref ∧ RepP g w kds kvs ∧ Paired (fun p kv => SqT g.K H p [kV kv.1, kv.2]) ps kvs
  | [], kds, vs, e, r => by
    simp only [pairsOf, Option.some.injEq] at e; subst e
    rw [r.of_nil]
    exact ⟨[], [], rfl, .nil, .nil⟩
  | d :: l, kds, vs, e, r => by
    obtain ⟨v, vs', rfl, h1, h2⟩ := r.uncons
    unfold pairsOf at e
    split at e
    · rename_i z; cases z
    · rename_i k x r' z
      simp only [List.cons.injEq] at z
      obtain ⟨rfl, rfl⟩ := z
      cases e1 : keyOf k with
      | none => rw [e1] at e; cases e
      | some key =>
        rw [e1] at e
        simp only [Option.bind_some] at e
        cases e2 : pairsOf l with
        | none => rw [e2] at e; cases e
        | some kds' =>
          rw [e2] at e
          simp only [Option.map_some, Option.some.injEq] at e
          subst e
          obtain ⟨ps, kvs, rfl, a, b⟩ := pairsOf_ok sh e2 h2
          simp only [Rep] at h1
          obtain ⟨p, us, rfl, f, r2⟩ := h1
          obtain ⟨u1, u2, rfl, q1, q2⟩ := r2.two
          have ek := keyOf_ok q1 e1
          subst ek
          exact ⟨p :: ps, (key, u2) :: kvs, rfl, .cons q2 a, .cons (SqT.mono sh.sub f.sq) b⟩
    · cases e
def cDict : C1 := fun l h => match l with
  | [.tup l] => (match pairsOf l with | some kds => some (mkDic (mergeP [] kds), h) | none => none)
  | [d] => (match (lstOf d h).bind pairsOf with | some kds => some (mkDic (mergeP [] kds), h) | none => none)
  | _ => none
theorem PostV.dicP {w : Wd} {h : MH} {H : Hp} {kds : KD} {kvs : List (Key × V)} {Q : VK} (q : PostV g w (some (mkDic kds, h)) Q) (s : SimH g w h H) (r : RepP g w kds kvs) : ∀ p, H p = none → Q (.ref p) (upd H p (.dK kvs)) := q.dic s r.1 r.2
theorem cm_dict (hc : X.calm = true) (hk : X.K = g.K) : CallM X g (.type "dict") cDict := by
  rintro pins s σ H vs us Q I rs ⟨w, h, l, sh, r, q⟩
  match l with
  | [] => exact q.elim
  | _ :: _ :: _ => simp only [cDict] at q; exact q.elim
  | [d] =>
    obtain ⟨v, rfl, r1⟩ := r.one
    have other : PostV g w (match (lstOf d h).bind pairsOf with | some kds => some (mkDic (mergeP [] kds), h) | none => none) Q → wpAny (model X.prog X.w) X.A (call (.type "dict") us) (EP X pins σ Q) X.xe s := fun q => by
      cases e1 : lstOf d h with
      | none => rw [e1] at q; exact q.elim
      | some l =>
        rw [e1] at q
        simp only [Option.bind_some] at q
        cases e2 : pairsOf l with
        | none => rw [e2] at q; exact q.elim
        | some kds =>
          rw [e2] at q
          obtain ⟨a, vs, rfl, f, r2⟩ := lstOf_ok sh r1 e1
          obtain ⟨ps, kvs, rfl, rp, pr⟩ := pairsOf_ok sh e2 r2
          rw [← hk] at pr
          exact call_dictP hc pins s σ H _ us Q I rs ⟨a, ps, kvs, rfl, SqL.of f, pr, q.dicP sh (RepP.merge rp .nil)⟩
    cases d with
    | tup l =>
      simp only [cDict] at q
      cases e2 : pairsOf l with
      | none => rw [e2] at q; exact q.elim
      | some kds =>
        rw [e2] at q
        simp only [Rep] at r1
        obtain ⟨a, vs, rfl, f, r2⟩ := r1
        obtain ⟨ps, kvs, rfl, rp, pr⟩ := pairsOf_ok sh e2 r2
        rw [← hk] at pr
        exact call_dictT hc pins s σ H _ us Q I rs ⟨a, ps, kvs, rfl, by rw [hk]; exact PTu.mono sh.sub f, pr, q.dicP sh (RepP.merge rp .nil)⟩
    | _ => exact other q

/-! ### sorted -/
def sortI (l : List Int) : List Int := l.mergeSort (fun a b => decide (a ≤ b))
theorem sortI_eq {l l' : List Int} (hp : l'.Perm l) (hs : l'.Pairwise (· ≤ ·)) : l' = sortI l := by
  have h1 : (sortI l).Perm l := List.mergeSort_perm _ _
  have h2 : (sortI l).Pairwise (fun a b => decide (a ≤ b) = true) := List.pairwise_mergeSort (fun a b c h1 h2 => by simp at *; omega) (fun a b => by simp; omega) l
  have h3 : (sortI l).Pairwise (· ≤ ·) := h2.imp (fun h => by simpa using h)
  exact (hp.trans h1.symm).eq_of_pairwise (fun a b _ _ h1 h2 => Int.le_antisymm h1 h2) hs h3
def sle (x y : Str) : Bool := !slt y x
def sortS (l : List Str) : List Str := l.mergeSort sle
theorem str_ext {x y : Str} (h : x.cps.toList = y.cps.toList) : x = y := by
  obtain ⟨a⟩ := x; obtain ⟨b⟩ := y
  have : a = b := Array.toList_inj.mp h
  rw [this]
theorem slt_irrefl (x : Str) : slt x x = false := by simp [slt, List.lt_irrefl]
theorem slt_trans {x y z : Str} (h1 : slt x y = true) (h2 : slt y z = true) : slt x z = true := by
  simp only [slt, decide_eq_true_eq] at *
  exact List.lt_trans h1 h2
theorem slt_tri {x y : Str} (h1 : slt x y = false) (h2 : slt y x = false) : x = y := by
  simp only [slt, decide_eq_false_iff_not] at h1 h2
  exact str_ext (List.le_antisymm (List.not_lt.mp h2) (List.not_lt.mp h1))
theorem sle_total (x y : Str) : (sle x y || sle y x) = true := by
  unfold sle
  cases h : slt y x with
  | false => rfl
  | true =>
    cases h2 : slt x y with
    | false => rfl
    | true => have := slt_trans h h2; rw [slt_irrefl] at this; cases this
theorem sle_trans {x y z : Str} (h1 : sle x y = true) (h2 : sle y z = true) : sle x z = true := by
  unfold sle at *
  simp only [Bool.not_eq_true'] at *
  simp only [slt, decide_eq_false_iff_not] at *
  exact List.not_lt.mpr (List.le_trans (List.not_lt.mp h1) (List.not_lt.mp h2))
theorem sle_antisymm {x y : Str} (h1 : sle x y = true) (h2 : sle y x = true) : x = y := by
  unfold sle at *
  simp only [Bool.not_eq_true'] at *
  exact slt_tri h2 h1
theorem rising_all : ∀ {l : List Str} {p : Str}, risingS p l = true → (∀ x ∈ l, sle p x = true) ∧ l.Pairwise (fun a b => sle a b = true)
  | [], p, _ => ⟨by simp, .nil⟩
  | x :: r, p, h => by
    simp only [risingS, Bool.and_eq_true] at h
    obtain ⟨h1, h2⟩ := h
    have h1' : sle p x = true := by
      unfold sle slt
      rw [← ltCps_eq]; exact h1
    obtain ⟨a, b⟩ := rising_all h2
    refine ⟨fun y hy => ?_, List.pairwise_cons.mpr ⟨a, b⟩⟩
    rcases List.mem_cons.mp hy with e | e
    · subst e; exact h1'
    · exact sle_trans h1' (a y e)
theorem sortedS_pairwise : ∀ {l : List Str}, sortedS l = true → l.Pairwise (fun a b => sle a b = true)
  | [], _ => .nil
  | x :: r, h => by
    obtain ⟨a, b⟩ := rising_all (show risingS x r = true from h)
    exact List.pairwise_cons.mpr ⟨a, b⟩
theorem sortS_eq {l l' : List Str} (hp : l'.Perm l) (hs : sortedS l' = true) : l' = sortS l := by
  have h1 : (sortS l).Perm l := List.mergeSort_perm _ _
  have h2 : (sortS l).Pairwise (fun a b => sle a b = true) := List.pairwise_mergeSort (le := sle) (fun a b c => sle_trans) sle_total l
  exact (hp.trans h1.symm).eq_of_pairwise (fun a b _ _ h1 h2 => sle_antisymm h1 h2) (sortedS_pairwise hs) h2
def keyStrs : List Key → Option (List Str)
  | [] => some []
  | .inr x :: r => (keyStrs r).map (x :: ·)
  | _ => none
theorem keyStrs_ok : ∀ {ks : List Key} {l : List Str}, keyStrs ks = some l → ks = l.map Sum.inr
  | [], l, e => by simp only [keyStrs, Option.some.injEq] at e; subst e; rfl
  | .inr x :: r, l, e => by
    simp only [keyStrs] at e
    cases e2 : keyStrs r with
    | none => rw [e2] at e; cases e
    | some l' =>
      rw [e2] at e
      simp only [Option.map_some, Option.some.injEq] at e
      subst e
      rw [keyStrs_ok e2]; rfl
  | .inl _ :: _, _, e => by cases e
def sortedL (l : List D) : Option (List D) := match intsOf l with
  | some ns => if ns.length < 64 then some ((sortI ns).map .int) else none
  | none => match strsOf l with
    | some xs => if xs.length < 64 then some ((sortS xs).map .str) else none
    | none => none
def cSorted : C1 := fun l h => match l with
  | [d] => (match dicOf d h with
    | some q => (match keyStrs q.1 with | some xs => if xs.length < 64 then some (.lst ((sortS xs).map .str), h) else none | none => none)
    | none => (match (lstOf d h).bind sortedL with | some l => some (.lst l, h) | none => none))
  | _ => none
theorem cm_sorted (hc : X.calm = true) : CallM X g (.builtin "sorted") cSorted := by
  rintro pins s σ H vs us Q I rs ⟨w, h, l, sh, r, q⟩
  match l with
  | [] => exact q.elim
  | _ :: _ :: _ => exact q.elim
  | [d] =>
    obtain ⟨v, rfl, r1⟩ := r.one
    simp only [cSorted] at q
    cases e1 : dicOf d h with
    | some z =>
      rw [e1] at q
      simp only at q
      cases e2 : keyStrs z.1 with
      | none => rw [e2] at q; exact q.elim
      | some xs =>
        rw [e2] at q
        simp only at q
        split at q
        · rename_i hz
          obtain ⟨a, kvs, rfl, f, k, r2⟩ := dicOf_ok sh r1 e1
          refine call_sortedD hc pins s σ H _ us Q I rs ⟨a, kvs, xs, rfl, .inl f, by rw [k]; exact keyStrs_ok e2, hz, fun ys p hp hs hn => ?_⟩
          rw [sortS_eq hp hs]
          exact q.lst sh (rep_strs _) p hn
        · exact q.elim
    | none =>
      rw [e1] at q
      simp only at q
      cases e2 : lstOf d h with
      | none => rw [e2] at q; exact q.elim
      | some l =>
        rw [e2] at q
        simp only [Option.bind_some] at q
        obtain ⟨a, vs, rfl, f, r2⟩ := lstOf_ok sh r1 e2
        unfold sortedL at q
        cases e3 : intsOf l with
        | some ns =>
          rw [e3] at q
          simp only at q
          have ev := intsOf_ok e3 r2
          subst ev
          by_cases hz : ns.length < 64
          · rw [if_pos hz] at q
            refine cr_sorted pins s σ H _ us Q I rs ⟨a, ns, rfl, SqL.of f, hz, fun ns' p hp hs hn => ?_⟩
            rw [sortI_eq hp hs]
            exact q.lst sh (rep_ints _) p hn
          · rw [if_neg hz] at q; exact q.elim
        | none =>
          rw [e3] at q
          simp only at q
          cases e4 : strsOf l with
          | none => rw [e4] at q; exact q.elim
          | some xs =>
            rw [e4] at q
            simp only at q
            have ev := strsOf_ok e4 r2
            subst ev
            by_cases hz : xs.length < 64
            · rw [if_pos hz] at q
              refine cr_sortedS pins s σ H _ us Q I rs ⟨a, xs, rfl, SqL.of f, hz, fun ns' p hp hs hn => ?_⟩
              rw [sortS_eq hp hs]
              exact q.lst sh (rep_strs _) p hn
            · rw [if_neg hz] at q; exact q.elim
/-! ### int, abs, str, divmod -/
def cInt : C1 := fun l h => match l with
  | [.int i] => some (.int i, h)
  | [.bl k] => some (.int (if k then 1 else 0), h)
  | [.str x] => if x.length ≤ 640 then (match PySem.intText? x with | some n => some (.int n, h) | none => none) else none
  | _ => none
theorem cm_int : CallM X g (.type "int") cInt := by
  rintro pins s σ H vs us Q I rs ⟨w, h, l, sh, r, q⟩
  match l with
  | [] => exact q.elim
  | _ :: _ :: _ => simp only [cInt] at q; exact q.elim
  | [d] =>
    obtain ⟨v, rfl, r1⟩ := r.one
    cases d with
    | int i => cases r1.int; exact call_int1 pins s σ H _ us Q I rs (.inl ⟨i, rfl, q.here sh (rep_int _)⟩)
    | bl k => cases r1.bl; exact call_int1 pins s σ H _ us Q I rs (.inr ⟨k, rfl, q.here sh (rep_int _)⟩)
    | str x =>
      cases r1.str
      simp only [cInt] at q
      split at q
      · rename_i hz
        cases e : PySem.intText? x with
        | none => rw [e] at q; exact q.elim
        | some n => rw [e] at q; exact call_int_str pins s σ H _ us Q I rs ⟨x, n, rfl, e, hz, q.here sh (rep_int _)⟩
      · exact q.elim
    | _ => exact q.elim
def cAbs : C1 := fun l h => match l with
  | [.int i] => some (.int (if i < 0 then -i else i), h) | _ => none
theorem cm_abs : CallM X g (.builtin "abs") cAbs := by
  rintro pins s σ H vs us Q I rs ⟨w, h, l, sh, r, q⟩
  match l with
  | [] => exact q.elim
  | _ :: _ :: _ => simp only [cAbs] at q; exact q.elim
  | [d] =>
    obtain ⟨v, rfl, r1⟩ := r.one
    cases d with
    | int i => cases r1.int; exact call_abs pins s σ H _ us Q I rs ⟨i, rfl, q.here sh (rep_int _)⟩
    | _ => exact q.elim
/-- an int as a text -/
def istr (i : Int) : Str := Str.ofString (toString i)
def cStr : C1 := fun l h => match l with
  | [.int i] => if i.natAbs.log2 < 1920 then some (.str (istr i), h) else none | _ => none
theorem cm_str : CallM X g (.type "str") cStr := by
  rintro pins s σ H vs us Q I rs ⟨w, h, l, sh, r, q⟩
  match l with
  | [] => exact q.elim
  | _ :: _ :: _ => simp only [cStr] at q; exact q.elim
  | [d] =>
    obtain ⟨v, rfl, r1⟩ := r.one
    cases d with
    | int i =>
      cases r1.int
      simp only [cStr] at q
      split at q
      · rename_i hz
        exact call_str_int pins s σ H _ us Q I rs ⟨i, rfl, hz, q.here sh (rep_str _)⟩
      · exact q.elim
    | _ => exact q.elim
theorem call_divmodF : CallR X (.builtin "divmod") (fun xs H Q => ∃ i j, xs = [.int i, .int j] ∧ CDivP i j ∧ ∀ p o, H p = none → o.dict = none → Q (.ref p) (upd H p (.frz o (.tup [.int (i / j), .int (i % j)])))) := by
  intro pins s σ H xs us Q I r h
  obtain ⟨i, j, rfl, ⟨h1, h2⟩, q⟩ := h
  obtain ⟨u, w', rfl, ⟨t, rfl⟩, ⟨t', rfl⟩⟩ := vals2 r
  refine divmod_int (by omega) ?_ (.inl h2)
  rw [Int.fdiv_eq_ediv_of_nonneg i (by omega), Int.fmod_eq_emod_of_nonneg i (by omega)]
  exact laidT (xs := [.int (i / j), .int (i % j)]) (its := [.int (i / j) s.toks, .int (i % j) (s.toks + 1)]) I (by simp only [List.length_cons, List.length_nil]; rw [sizeLine_eq]; decide) (.cons ⟨_, rfl⟩ (.cons ⟨_, rfl⟩ .nil)) q
def cDivmod : C1 := fun l h => match l with
  | [.int i, .int j] => if 0 < j ∧ i.natAbs < 2 ^ 1000 then some (.tup [.int (i / j), .int (i % j)], h) else none | _ => none
theorem divp_small {i j : Int} (h : 0 < j ∧ i.natAbs < 2 ^ 1000) : CDivP i j := by
  refine divp_ok h.1 ?_
  have := PyProof.Rows.intBits_le (k := 1000) h.2
  omega
theorem cm_divmod : CallM X g (.builtin "divmod") cDivmod := by
  rintro pins s σ H vs us Q I rs ⟨w, h, l, sh, r, q⟩
  match l with
  | [] => exact q.elim
  | [_] => simp only [cDivmod] at q; exact q.elim
  | _ :: _ :: _ :: _ => simp only [cDivmod] at q; exact q.elim
  | [a, b] =>
    obtain ⟨v, u, rfl, r1, r2⟩ := r.two
    cases a with
    | int i =>
      cases b with
      | int j =>
        cases r1.int; cases r2.int
        simp only [cDivmod] at q
        split at q
        · rename_i hz
          exact call_divmodF pins s σ H _ us Q I rs ⟨i, j, rfl, divp_small hz, q.tup sh (.cons (rep_int _) (.cons (rep_int _) .nil))⟩
        · exact q.elim
      | _ => exact q.elim
    | _ => exact q.elim

/-! ### isinstance(x, T), T a written built-in type -/
def tyD (d : D) (h : MH) : Option String := match d with
  | .non => some "NoneType" | .bl _ => some "bool" | .int _ => some "int" | .str _ => some "str"
  | .tup _ => some "tuple" | .lst _ => some "list" | .dic _ _ => some "dict"
  | .ref n => (match h[n]? with | some (.lst _) => some "list" | some (.dic _ _) => some "dict" | _ => none)
  | _ => none
theorem tyD_ok {w : Wd} {h : MH} {H : Hp} {d : D} {v : V} {T : String} (s : SimH g w h H) (r : Rep g w d v) (e : tyD d h = some T) : TyX g.K H v (.type T) := by
  cases d with
  | non => simp only [Rep] at r; subst r; simp only [tyD, Option.some.injEq] at e; subst e; exact .base .non
  | bl b => simp only [Rep] at r; subst r; simp only [tyD, Option.some.injEq] at e; subst e; exact .base (.bl b)
  | int b => simp only [Rep] at r; subst r; simp only [tyD, Option.some.injEq] at e; subst e; exact .base (.int b)
  | str b => simp only [Rep] at r; subst r; simp only [tyD, Option.some.injEq] at e; subst e; exact .base (.str b)
  | tup l =>
    simp only [Rep] at r; obtain ⟨a, vs, rfl, f, r⟩ := r
    simp only [tyD, Option.some.injEq] at e; subst e
    rcases f with ⟨o, f, _⟩ | ⟨o, its, n, k, c, _⟩
    · exact .fTuple (s.sub _ _ f)
    · exact .kTuple k c
  | lst l =>
    simp only [Rep] at r; obtain ⟨a, vs, rfl, f, r⟩ := r
    simp only [tyD, Option.some.injEq] at e; subst e
    exact .base (.lst (s.sub _ _ f))
  | dic ks l =>
    simp only [Rep] at r; obtain ⟨a, kvs, rfl, f, r⟩ := r
    simp only [tyD, Option.some.injEq] at e; subst e
    exact .base (.dK (s.sub _ _ f))
  | ref n =>
    simp only [Rep] at r; obtain ⟨a, rfl, m⟩ := r
    obtain ⟨o, ho, x⟩ := s.at_ m
    simp only [tyD, ho] at e
    cases o with
    | lst l => simp only [Option.some.injEq] at e; subst e; obtain ⟨_, vs, f, _⟩ := x; exact .base (.lst f)
    | dic ks l => simp only [Option.some.injEq] at e; subst e; obtain ⟨_, kvs, f, _⟩ := x; exact .base (.dK f)
    | _ => cases e
  | _ => cases e
/-- an instance's class -/
def clsD (d : D) (h : MH) : Option Nat := match d with
  | .ref n => (match h[n]? with | some (.ins c _) => some c | _ => none) | _ => none
def isiT (T U : String) : Bool := T == U || (T == "bool" && U == "int")
def TyNames : List String := ["NoneType", "bool", "int", "str", "tuple", "list", "dict"]
theorem kit_names : ∀ T ∈ TyNames, ∀ U ∈ TyNames, U ≠ "NoneType" → kitB T U = some (isiT T U) := by decide +kernel
theorem tyD_mem {d : D} {h : MH} {T : String} (e : tyD d h = some T) : T ∈ TyNames := by
  unfold tyD at e
  split at e <;> first
    | (simp only [Option.some.injEq] at e; subst e; decide)
    | (split at e <;> first | (simp only [Option.some.injEq] at e; subst e; decide) | cases e)
    | cases e
/-- U a built-in type -/
def cIsi : C1 := fun l h => match l with
  | [d, .ty U] => if U ∈ TyNames ∧ U ≠ "NoneType" then (match tyD d h with | some T => some (.bl (isiT T U), h) | none => none) else none | _ => none
theorem cm_isi (hk : X.K = g.K) : CallM X g (.builtin "isinstance") cIsi := by
  rintro pins s σ H vs us Q I rs ⟨w, h, l, sh, r, q⟩
  match l with
  | [] => exact q.elim
  | [_] => exact q.elim
  | _ :: _ :: _ :: _ => simp only [cIsi] at q; exact q.elim
  | [d, t] =>
    obtain ⟨v, u, rfl, r1, r2⟩ := r.two
    cases t with
    | ty U =>
      simp only [cIsi] at q
      by_cases hU : U ∈ TyNames ∧ U ≠ "NoneType"
      · rw [if_pos hU] at q
        cases e : tyD d h with
        | none => rw [e] at q; exact q.elim
        | some T =>
          rw [e] at q
          have tx := tyD_ok sh r1 e
          simp only [Rep] at r2
          subst r2
          rw [← hk] at tx
          exact call_isi pins s σ H _ us Q I rs ⟨v, .ty U, _, _, _, rfl, .ty U, tx, kit_ty (kit_names T (tyD_mem e) U hU.1 hU.2), q.here sh (rep_bl _)⟩
      · rw [if_neg hU] at q; exact q.elim
    | _ => exact q.elim

/-! ### methods of what is built in -/
abbrev M1 := D → List D → MH → Vr
def rM (g : Gd) (f : M1) : V → List V → Hp → VK → Prop := fun x vs H Q => ∃ w h a l, SimH g w h H ∧ Rep g w a x ∧ Reps g w l vs ∧ PostV g w (f a l h) Q
def isTy (T : String) (d : D) (h : MH) : Bool := match T with
  | "str" => (match d with | .str _ => true | _ => false)
  | "list" => (lstOf d h).isSome
  | "dict" => (dicOf d h).isSome
  | _ => false
theorem isTy_ok {w : Wd} {h : MH} {H : Hp} {d : D} {v : V} {T : String} (s : SimH g w h H) (r : Rep g w d v) (e : isTy T d h = true) : tyV g.K T v H := by
  unfold isTy at e
  split at e
  · split at e
    · cases r.str; rfl
    · cases e
  · obtain ⟨l, e1⟩ := Option.isSome_iff_exists.mp e
    obtain ⟨a, vs, rfl, f, _⟩ := lstOf_ok s r e1
    exact .inl ⟨rfl, vs, SqL.of f⟩
  · obtain ⟨l, e1⟩ := Option.isSome_iff_exists.mp e
    obtain ⟨a, vs, rfl, f, _⟩ := dicOf_ok s r e1
    exact .inr (.inr (.inl ⟨rfl, .inl ⟨vs, f⟩⟩))
  · cases e
def mBM (T : String) (f : M1) (mo : ME) (ma : MA) : ME := fun ds h => (mo ds h).bind fun a h1 => if isTy T a h1 then (ma ds h1).bind fun l h2 => Res.of (f a l h2) else .stuck
variable {W : WX} {p : Pn} {apos cpos pos : Pos} {o e : Expr} {es : List Expr} {mo : ME} {ma : MA} {T bid : String} {name : Str} {f : M1}
theorem me_bm (hk : X.K = g.K) (hm : MtR X bid (rM g f)) (pa : PlainAttrs T) (slot : Slot T name bid) (hty : typeOf (.builtin bid) = pure (.type "method_descriptor")) (ho : PE X o (RdE g W p mo)) (ha : PA X (e :: es) (RdA g W p ma))
    (hbase : attributeBase o name X.env (eval o X.env) = eval o X.env := by rfl)
    (hfew : ((backTo cpos (starEach (e :: es) X.env)).all (fun x => !x.1) && (backToKw cpos (keywordEach [] X.env)).all (fun x => x.1.isSome)
      && decide ((e :: es).length + ([] : List Keyword).length + (if ([] : List Keyword).isEmpty then 0 else 1) < 30)) = true := by rfl)
    (hline : (apos.endLine == cpos.line) = true := by rfl) (hs : starEach (e :: es) X.env = (false, eval e X.env) :: starEach es X.env := by rfl) (hplain : (backTo cpos (starEach es X.env)).any (·.1) = false := by rfl) :
    PE X (.Call (.Attribute o name apos) (e :: es) [] cpos) (RdE g W p (mBM T f mo ma)) := by
  refine PE.imp (pe_bm pa slot hty hm ho ha hbase hfew hline hs hplain) fun σ H Q ⟨w, ds, h, s, q⟩ => ?_
  refine RdG.mk s (PostG.bind s q fun w1 d h1 x H1 l1 s1 r1 q1 => ?_)
  split at q1
  · rename_i ht
    refine ⟨by rw [hk]; exact isTy_ok s1.h r1 ht, ?_⟩
    refine RdG.mk s1 (PostG.bind s1 q1 fun w2 l h2 vs H2 l2 s2 r2 q2 => ?_)
    exact ⟨w2, h2, d, l, s2.h, r1.mono l2, r2, PostV.of q2⟩
  · exact q1.elim
theorem me_bm0 (hk : X.K = g.K) (hm : MtR X bid (rM g f)) (pa : PlainAttrs T) (slot : Slot T name bid) (hty : typeOf (.builtin bid) = pure (.type "method_descriptor")) (ho : PE X o (RdE g W p mo))
    (hbase : attributeBase o name X.env (eval o X.env) = eval o X.env := by rfl) (hline : (apos.endLine == cpos.line) = true := by rfl) : PE X (.Call (.Attribute o name apos) [] [] cpos) (RdE g W p (mBM T f mo mNil)) := by
  refine PE.imp (pe_bm0 pa slot hty hm ho hbase hline) fun σ H Q ⟨w, ds, h, s, q⟩ => ?_
  refine RdG.mk s (PostG.bind s q fun w1 d h1 x H1 l1 s1 r1 q1 => ?_)
  split at q1
  · rename_i ht
    refine ⟨by rw [hk]; exact isTy_ok s1.h r1 ht, ?_⟩
    exact ⟨w1, h1, d, [], s1.h, r1, .nil, PostV.of q1⟩
  · exact q1.elim
/-- a list of the store written -/
theorem PostV.wr {w : Wd} {h : MH} {H : Hp} {n : Nat} {a : Addr} {l : List D} {d : D} {v : V} {vs : List V} {Q : VK} (q : PostV g w (some (d, h.set n (.lst l))) Q) (s : SimH g w h H) (m : w.mu[n]? = some a) (hF : w.F a = none) (hs : ∃ u, H a = some u ∧ Sto u) (r : Reps g w l vs) (rd : Rep g w d v) : Q v (upd H a (.lst vs)) :=
  q w v _ (Le.refl w) (s.write m hF hs ⟨hF, vs, upd_same, r⟩) rd
def fAppend : M1 := fun a l h => match a, l with
  | .ref n, [d] => (match h[n]? with | some (.lst xs) => if xs.length < sizeLine then some (.non, h.set n (.lst (xs ++ [d]))) else none | _ => none) | _, _ => none
theorem mm_append : MtR X "list.append" (rM g fAppend) := by
  rintro pins s σ H x xs v us Q I rx rs ⟨w, h, a, l, sh, ra, r, q⟩
  cases a with
  | ref n =>
    match l with
    | [] => exact q.elim
    | _ :: _ :: _ => exact q.elim
    | [d] =>
      simp only [Rep] at ra
      obtain ⟨ad, rfl, m⟩ := ra
      obtain ⟨v1, rfl, r1⟩ := r.one
      simp only [fAppend] at q
      split at q
      · rename_i xs' hn
        split at q
        · rename_i hz
          obtain ⟨ad', m', hF, vs, f, r2⟩ := sh.ob n _ hn
          rw [m] at m'; cases m'
          exact mt_append pins s σ H _ _ v us Q I rx rs ⟨ad, vs, v1, rfl, rfl, f, by rw [← r2.length]; exact hz, q.wr sh m hF ⟨_, f, trivial⟩ (r2.append (.cons r1 .nil)) rep_non⟩
        · exact q.elim
      · exact q.elim
  | _ => exact q.elim
/-- xs.pop(i), i from 0 on -/
def fPopAt : M1 := fun a l h => match a, l with
  | .ref n, [.int i] => (match h[n]? with | some (.lst xs) => if 0 ≤ i ∧ i < 2 ^ 63 then (match xs[i.toNat]? with | some d => some (d, h.set n (.lst (xs.eraseIdx i.toNat))) | none => none) else none | _ => none) | _, _ => none
theorem mm_popAt : MtR X "list.pop" (rM g fPopAt) := by
  rintro pins s σ H x xs v us Q I rx rs ⟨w, h, a, l, sh, ra, r, q⟩
  cases a with
  | ref n =>
    match l with
    | [] => exact q.elim
    | _ :: _ :: _ => simp only [fPopAt] at q; exact q.elim
    | [d] =>
      cases d with
      | int i =>
        simp only [Rep] at ra
        obtain ⟨ad, rfl, m⟩ := ra
        obtain ⟨v1, rfl, r1⟩ := r.one
        cases r1.int
        simp only [fPopAt] at q
        split at q
        · rename_i xs' hn
          split at q
          · rename_i hz
            obtain ⟨ad', m', hF, vs, f, r2⟩ := sh.ob n _ hn
            rw [m] at m'; cases m'
            split at q
            · rename_i d hd
              obtain ⟨vv, h1, h2⟩ := r2.get hd
              have hlt : i.toNat < vs.length := (List.getElem?_eq_some_iff.mp h1).1
              have hsq : seqIndex? i vs.length = some i.toNat := by
                rw [seqIndex_of hz.1 (by omega)]
              exact mt_popAt pins s σ H _ _ v us Q I rx rs ⟨ad, vs, i, i.toNat, vv, rfl, rfl, f, by omega, hz.2, hsq, h1, q.wr sh m hF ⟨_, f, trivial⟩ (r2.eraseIdx _) h2⟩
            · exact q.elim
          · exact q.elim
        · exact q.elim
      | _ => exact q.elim
  | _ => exact q.elim
/-- texts -/
def fJoin : M1 := fun a l h => match a, l with
  | .str a, [.tup l] => (match strsOf l with | some ys => if (ys.map (·.length)).sum + ys.length * a.length ≤ 16777216 then some (.str (Txt.join a ys), h) else none | none => none)
  | .str a, [d] => (match (lstOf d h).bind strsOf with | some ys => if (ys.map (·.length)).sum + ys.length * a.length ≤ 16777216 then some (.str (Txt.join a ys), h) else none | none => none)
  | _, _ => none
theorem mm_join (hk : X.K = g.K) : MtR X "str.join" (rM g fJoin) := by
  rintro pins s σ H x xs v us Q I rx rs ⟨w, h, a, l, sh, ra, r, q⟩
  cases a with
  | str a =>
    cases ra.str
    match l with
    | [] => exact q.elim
    | _ :: _ :: _ => simp only [fJoin] at q; exact q.elim
    | [d] =>
      obtain ⟨v1, rfl, r1⟩ := r.one
      have other : PostV g w (match (lstOf d h).bind strsOf with | some ys => if (ys.map (·.length)).sum + ys.length * a.length ≤ 16777216 then some (.str (Txt.join a ys), h) else none | none => none) Q → wpAny (model X.prog X.w) X.A (call (.builtin "str.join") (v :: us)) (EP X pins σ Q) X.xe s := fun q => by
        cases e1 : lstOf d h with
        | none => rw [e1] at q; exact q.elim
        | some l =>
          rw [e1] at q
          simp only [Option.bind_some] at q
          cases e2 : strsOf l with
          | none => rw [e2] at q; exact q.elim
          | some ys =>
            rw [e2] at q
            simp only at q
            split at q
            · rename_i hz
              obtain ⟨ad, vs, rfl, f, r2⟩ := lstOf_ok sh r1 e1
              have ev := strsOf_ok e2 r2
              subst ev
              exact mt_join pins s σ H _ _ v us Q I rx rs ⟨a, ad, ys, rfl, rfl, .inl (SqL.of f), hz, q.here sh (rep_str _)⟩
            · exact q.elim
      cases d with
      | tup l =>
        simp only [fJoin] at q
        cases e2 : strsOf l with
        | none => rw [e2] at q; exact q.elim
        | some ys =>
          rw [e2] at q
          simp only at q
          split at q
          · rename_i hz
            simp only [Rep] at r1
            obtain ⟨ad, vs, rfl, f, r2⟩ := r1
            have ev := strsOf_ok e2 r2
            subst ev
            exact mt_join pins s σ H _ _ v us Q I rx rs ⟨a, ad, ys, rfl, rfl, .inr (by rw [hk]; exact SqT.mono sh.sub f.sq), hz, q.here sh (rep_str _)⟩
          · exact q.elim
      | _ => exact other q
  | _ => exact q.elim
def fSplit : M1 := fun a l h => match a, l with
  | .str a, [.str b] => if (b.length == 0) = false ∧ a.length + 2 ≤ sizeLine then some (.lst ((Txt.split a b).map .str), h) else none | _, _ => none
theorem mm_split : MtR X "str.split" (rM g fSplit) := by
  rintro pins s σ H x xs v us Q I rx rs ⟨w, h, a, l, sh, ra, r, q⟩
  cases a with
  | str a =>
    cases ra.str
    match l with
    | [] => exact q.elim
    | _ :: _ :: _ => simp only [fSplit] at q; exact q.elim
    | [d] =>
      obtain ⟨v1, rfl, r1⟩ := r.one
      cases d with
      | str b =>
        cases r1.str
        simp only [fSplit] at q
        split at q
        · rename_i hz
          exact mt_split pins s σ H _ _ v us Q I rx rs ⟨a, b, rfl, rfl, hz.1, hz.2, q.lst sh (rep_strs _)⟩
        · exact q.elim
      | _ => exact q.elim
  | _ => exact q.elim
def fCount : M1 := fun a l h => match a, l with
  | .str a, [.str b] => some (.int (Txt.count a b), h) | _, _ => none
theorem mm_count : MtR X "str.count" (rM g fCount) := by
  rintro pins s σ H x xs v us Q I rx rs ⟨w, h, a, l, sh, ra, r, q⟩
  cases a with
  | str a =>
    cases ra.str
    match l with
    | [] => exact q.elim
    | _ :: _ :: _ => simp only [fCount] at q; exact q.elim
    | [d] =>
      obtain ⟨v1, rfl, r1⟩ := r.one
      cases d with
      | str b => cases r1.str; exact mt_count pins s σ H _ _ v us Q I rx rs ⟨a, b, rfl, rfl, q.here sh (rep_int _)⟩
      | _ => exact q.elim
  | _ => exact q.elim

/-! ### f-strings of texts and ints -/
def fmtD (d : D) : Option Str := match d with
  | .str x => if x.length ≤ sizeLine then some x else none
  | .int i => if i.natAbs.log2 < 1920 then some (istr i) else none
  | _ => none
def mFmt (m : ME) : ME := fun ds h => (m ds h).bind fun d h1 => onSome (fmtD d) fun x => .ok (.str x) h1
theorem me_fmt {m : ME} (he : PE X e (RdE g W p m)) : PE X (.FormattedValue e (-1) none pos) (RdE g W p (mFmt m)) := by
  refine PE.imp (pe_fmt he) fun σ H Q ⟨w, ds, h, s, q⟩ => ?_
  refine RdG.mk s (PostG.bind s q fun w1 d h1 x H1 l1 s1 r1 q1 => ?_)
  cases d with
  | str x =>
    cases r1.str
    simp only [fmtD] at q1
    split at q1
    · rename_i hz
      exact .inl ⟨x, rfl, hz, q1 w1 _ H1 (Le.refl _) s1.h (rep_str _)⟩
    · exact q1.elim
  | int i =>
    cases r1.int
    simp only [fmtD] at q1
    split at q1
    · rename_i hz
      exact .inr ⟨i, rfl, hz, q1 w1 _ H1 (Le.refl _) s1.h (rep_str _)⟩
    · exact q1.elim
  | _ => exact q1.elim
def mJs : List ME → Str → ME
  | [], acc => fun _ h => .ok (.str acc) h
  | m :: ms, acc => fun ds h => (m ds h).bind fun d h1 => match d with
    | .str y => if (acc ++ y).length ≤ sizeLine then mJs ms (acc ++ y) ds h1 else .stuck
    | _ => .stuck
inductive MJ (X : Cx) (g : Gd) (W : WX) (p : Pn) : List Expr → List ME → Prop where
  | nil : MJ X g W p [] []
  | cons {e : Expr} {m : ME} {es : List Expr} {ms : List ME} (h : PE X e (RdE g W p m)) (r : MJ X g W p es ms) : MJ X g W p (e :: es) (m :: ms)
theorem MJ.pj {es : List Expr} {ms : List ME} (h : MJ X g W p es ms) : PJ X es (ms.map fun m => RdE g W p m) := by
  induction h with
  | nil => exact .nil
  | cons h _ ih => exact .cons h ih
theorem mjs_run : ∀ (ms : List ME) (acc : Str) {σ : L2.St} {H : Hp} {Q : VK}, RdE g W p (mJs ms acc) σ H Q → tJs (ms.map fun m => RdE g W p m) acc σ H fun out H1 => Q (.str out) H1
  | [], acc, σ, H, Q, ⟨w, ds, h, s, q⟩ => q w _ H (Le.refl _) s.h (rep_str _)
  | m :: ms, acc, σ, H, Q, ⟨w, ds, h, s, q⟩ => by
    refine RdG.mk s (PostG.bind s q fun w1 d h1 x H1 l1 s1 r1 q1 => ?_)
    cases d with
    | str y =>
      cases r1.str
      simp only at q1
      split at q1
      · rename_i hz
        exact ⟨y, rfl, hz, mjs_run ms (acc ++ y) (RdG.mk s1 q1)⟩
      · exact q1.elim
    | _ => exact q1.elim
theorem me_joined {v1 v2 : Expr} {rest : List Expr} {ms : List ME} (h : MJ X g W p (v1 :: v2 :: rest) ms) : PE X (.JoinedStr (v1 :: v2 :: rest) pos) (RdE g W p (mJs ms Str.empty)) :=
  PE.imp (pe_joined h.pj) fun σ H Q h => mjs_run ms Str.empty h
end
end ML
set_option Elab.async false
set_option linter.all false
set_option maxRecDepth 100000
set_option maxHeartbeats 2000000
set_option autoImplicit false
/-! M: attributes, methods of own classes, instances made, keywords. -/
namespace ML
open PySem PySem.Spec PyProof.Rows L2

/-- the class at place c, without the attribute name f -/
structure ClM (g : Gd) (c : Nat) (C : Addr) : Prop where
  at_ : g.cl[c]? = some C
  cls : Cls g.K C
theorem ClM.eq {g : Gd} {c : Nat} {C C' : Addr} (h : ClM g c C) (e : g.cl[c]? = some C') : C' = C := by
  rw [h.at_] at e; cases e; rfl
def onIns {α : Type} (d : D) (h : MH) (c : Nat) (k : Nat → List (Str × D) → Res α) : Res α := match d with
  | .ref n => (match h[n]? with | some (.ins c' fs) => if c' = c then k n fs else .stuck | _ => .stuck)
  | _ => .stuck
theorem onIns_ok {α : Type} {g : Gd} {w : Wd} {d : D} {v : V} {h : MH} {H : Hp} {c : Nat} {C : Addr} {k : Nat → List (Str × D) → Res α} (s : SimH g w h H) (r : Rep g w d v) (cm : ClM g c C) {P : Res α → Prop} (hs : ¬ P .stuck) (q : P (onIns d h c k)) :
    ∃ n a dx fs fvs, d = .ref n ∧ v = .ref a ∧ w.mu[n]? = some a ∧ h[n]? = some (.ins c fs) ∧ w.F a = none ∧ H a = some (.ins C dx fvs) ∧ RepF g w fs fvs ∧ P (k n fs) := by
  cases d with
  | ref n =>
    simp only [Rep] at r
    obtain ⟨a, rfl, m⟩ := r
    simp only [onIns] at q
    split at q
    · rename_i c' fs hn
      split at q
      · rename_i e
        subst e
        obtain ⟨a', m', hF, C', dx, fvs, hc, e, rf⟩ := s.ob n _ hn
        rw [m] at m'; cases m'
        have := cm.eq hc
        subst this
        exact ⟨n, a, dx, fs, fvs, rfl, rfl, m, hn, hF, e, rf, q⟩
      · exact absurd q hs
    · exact absurd q hs
  | _ => exact absurd q hs
def mFld (c : Nat) (f : Str) (m : ME) : ME := fun ds h => (m ds h).bind fun d h1 => onIns d h1 c fun _ fs => onSome (fs.lookup f) fun x => .ok x h1
def mPutFld (c : Nat) (f : Str) (mo mv : ME) : MS := fun ds h => lift ((mv ds h).bind fun v h1 => (mo ds h1).bind fun d h2 => onIns d h2 c fun n fs => if fs.length < 1000 then Res.ok D.non (h2.set n (.ins c (putD f v fs))) else .stuck) ds fun _ h3 => .next ds h3
section
variable {X : Cx} {g : Gd} {W : WX} {p : Pn} {pos apos pp : Pos} {o e : Expr} {es : List Expr} {m mo mv : ME} {ma mk : MA} {c : Nat} {C : Addr} {f : Str}
theorem me_fld (hk : X.K = g.K) (cm : ClM g c C) (na : NoAttr g.K C f) (he : PE X e (RdE g W p m)) (hb : attributeBase e f X.env (eval e X.env) = eval e X.env := by rfl) : PE X (.Attribute e f pos) (RdE g W p (mFld c f m)) := by
  refine PE.imp (pe_fld he hb) fun σ H Q ⟨w, ds, h, s, q⟩ => ?_
  refine RdG.mk s (PostG.bind s q fun w1 d h1 x H1 l1 s1 r1 q1 => ?_)
  obtain ⟨n, a, dx, fs, fvs, rfl, rfl, hm, hn, hF, e1, rf, q2⟩ := onIns_ok (P := fun r => PostG g (Rep g) W w1 σ r Q) s1.h r1 cm (fun z => z) q1
  cases e2 : fs.lookup f with
  | none => rw [e2] at q2; exact q2.elim
  | some x =>
    rw [e2] at q2
    obtain ⟨v, h2, r2⟩ := rf.look e2
    exact ⟨a, C, dx, fvs, v, rfl, e1, by rw [hk]; exact cm.cls, by rw [hk]; exact na, h2, q2 w1 v H1 (Le.refl _) s1.h r2⟩
theorem ms_fld (hk : X.K = g.K) (cm : ClM g c C) (na : NoAttr g.K C f) (ha : PE X o (RdE g W p mo)) (hv : PE X e (RdE g W p mv)) (hs : swapsWith e (some (.Attribute o f apos)) pos.line X.env = pure false := by rfl) : PS X (.Assign [.Attribute o f apos] e pos) (RdS g W p (mPutFld c f mo mv)) := by
  refine PS.imp (ps_fld ha hv hs) fun En σ H ⟨w, ds, h, s, q⟩ => ?_
  have q' : PostG g (fun _ (_ : D) (_ : Unit) => True) W w σ ((mv ds h).bind fun v h1 => (mo ds h1).bind fun d h2 => onIns d h2 c fun n fs => if fs.length < 1000 then Res.ok D.non (h2.set n (.ins c (putD f v fs))) else .stuck) (fun _ H' => En.nx σ H') :=
    PostS.lift s q fun w1 d h1 x H1 l1 s1 r1 q1 => q1 w1 σ H1 (Le.refl _) s1
  refine RdG.mk s (PostG.bind s q' fun w1 v h1 vv H1 l1 s1 r1 q1 => ?_)
  refine RdG.mk s1 (PostG.bind s1 q1 fun w2 d h2 x H2 l2 s2 r2 q2 => ?_)
  obtain ⟨n, a, dx, fs, fvs, rfl, rfl, hm, hn, hF, e1, rf, q3⟩ := onIns_ok (P := fun r => PostG g (fun _ (_ : D) (_ : Unit) => True) W w2 σ r (fun _ H' => En.nx σ H')) s2.h r2 cm (fun z => z) q2
  split at q3
  · rename_i hz
    refine ⟨a, C, dx, fvs, rfl, e1, by rw [hk]; exact cm.cls, by rw [hk]; exact na, by rw [← rf.length]; exact hz, ?_⟩
    exact q3 w2 () _ (Le.refl _) (s2.h.write hm hF ⟨_, e1, trivial⟩ ⟨hF, C, dx, _, cm.at_, upd_same, rf.put (r1.mono l2)⟩) trivial
  · exact q3.elim

/-! ### methods -/
structure MeM (P : Program) (w : World) (mg : Str → Option Value) (base : Heap) (g : Gd) (k : Nat) (c : Nat) (x qual : Str) (st : Stmt) (ps : List Str) (n : Nat) (m : List D → MH → Res D) : Prop where
  ex : ∃ C f fd, ClM g c C ∧ Meth g.K C x f ∧ Fun g.K x qual st f fd ∧ FnOk P w g.K mg base (L2.CX P w) k f fd ps (spM g n m) ∧ Binds g.K fd ps [] ∧ ps.length = n
structure AtM (g : Gd) (c : Nat) (x qual : Str) (st : Stmt) (ps : List Str) : Prop where
  ex : ∃ C f fd, ClM g c C ∧ Meth g.K C x f ∧ Fun g.K x qual st f fd ∧ Binds g.K fd ps []
theorem MeM.mk' {P : Program} {w : World} {mg : Str → Option Value} {base : Heap} {x qual : Str} {st : Stmt} {N ps : List Str} {k n : Nat} {body : MS} (T : AtM g c x qual st ps) (S : FnScope N ps (defScope st)) (hn : ps.length = n)
    (hbody : ∀ (f : Addr) (cdv : Value) (A : Around) (outer : List Env) (s : Shared) (H : Hp) (E : XK), codeVal g.K f = cdv → Room k (bX P w g mg base N qual (defScope st) f cdv A outer s H E).A → Takes (bX P w g mg base N qual (defScope st) f cdv A outer s H E) (bW E) →
      PassesOwn (model P w) (bX P w g mg base N qual (defScope st) f cdv A outer s H E).A (bX P w g mg base N qual (defScope st) f cdv A outer s H E).env (bX P w g mg base N qual (defScope st) f cdv A outer s H E).xe →
      PSs (bX P w g mg base N qual (defScope st) f cdv A outer s H E) (defBody st) (RdS g (bW E) pn0 body)) : MeM P w mg base g (k + 1) c x qual st ps n (mFn n N.length body) := by
  obtain ⟨C, f, fd, cm, hm, F, hb⟩ := T
  exact ⟨C, f, fd, cm, hm, F, fnok_mk F S hn (fun cdv A outer s H E hcv hr tk hp => hbody f cdv A outer s H E hcv hr tk hp), hb, hn⟩
theorem MeM.trim {P : Program} {w : World} {mg : Str → Option Value} {base : Heap} {x qual : Str} {st : Stmt} {ps : List Str} {k n N : Nat} {body : MS} (F : MeM P w mg base g k c x qual st ps n (mFn n N body)) : MeM P w mg base g k c x qual st ps n (mFnT n N body) := by
  obtain ⟨C, f, fd, a, b, d, F, r⟩ := F
  exact ⟨C, f, fd, a, b, d, fnok_trim F, r⟩
theorem MeM.mono {P : Program} {w : World} {mg : Str → Option Value} {base : Heap} {x qual : Str} {st : Stmt} {ps : List Str} {k j n : Nat} {m : List D → MH → Res D} (F : MeM P w mg base g k c x qual st ps n m) (h : k ≤ j) : MeM P w mg base g j c x qual st ps n m := by
  obtain ⟨C, f, fd, a, b, d, F, r⟩ := F
  exact ⟨C, f, fd, a, b, d, F.mono h, r⟩
/-- o.x(..): n values with o -/
def mMeth (c n : Nat) (x : Str) (m : List D → MH → Res D) (mo : ME) (ma : MA) : ME := fun ds h => (mo ds h).bind fun d h1 => onIns d h1 c fun _ fs => match fs.lookup x with
  | none => (ma ds h1).bind fun l h2 => if l.length + 1 = n then m (d :: l) h2 else .stuck
  | some _ => .stuck
variable {k n : Nat} {x qual : Str} {st : Stmt} {ps : List Str} {mm : List D → MH → Res D}
theorem me_meth {pl : Sem Bool} (hk : X.K = g.K) (M : MeM X.prog X.w X.mg X.base g k c x qual st ps n mm) (hr : Room k X.A) (tk : Takes X W) (he : PE X o (RdE g W p mo)) (ha : PA X (e :: es) (RdA g W p ma))
    (hst : starEach (e :: es) X.env = (false, eval e X.env) :: starEach es X.env := by rfl) (hpl : (backTo pos (starEach es X.env)).any (·.1) = false := by rfl)
    (ht : eval (.Call (.Attribute o x apos) (e :: es) [] pos) X.env = (do
      let ov ← eval o X.env
      standAt apos.atName
      let (f, first) ← holding [ov] (getMethod ov x pl)
      callWith pos f first (backTo pos (starEach (e :: es) X.env)) (backToKw pos (keywordEach [] X.env))) := by rfl) :
    PE X (.Call (.Attribute o x apos) (e :: es) [] pos) (RdE g W p (mMeth c n x mm mo ma)) := by
  obtain ⟨C, f, fd, cm, hm, Fu, F, hb, hn⟩ := M
  refine ⟨fun pins s σ H Q I ⟨w, ds, h, sm, q⟩ => ?_⟩
  have cl := cm.cls
  rw [← hk] at F hb hm cl
  refine PySem.W.methodCall_KW (pl := pl) (thn (he.run pins s σ H (fun xv H1 => ∃ w1 h1 n' a dx fvs, Sm g w1 ds σ h1 H1 p ∧ Rep g w1 (.ref n') xv ∧ xv = .ref a ∧ H1 a = some (.ins C dx fvs) ∧ fvs.lookup x = none ∧
      PostG g (Rep g) W w1 σ ((ma ds h1).bind fun l h2 => if l.length + 1 = n then mm (.ref n' :: l) h2 else .stuck) Q) I
      (RdG.mk sm (PostG.bind sm q fun w1 d h1 xv H1 l1 s1 r1 q1 => ?_))) fun u s1 ⟨xv, H1, I1, rx, w1, h1, n', a, dx, fvs, s1m, rn, ex, ea, l, q1⟩ => ?_) ht
  · obtain ⟨n', a, dx, fs, fvs, rfl, rfl, hmu, hn', hF, e1, rf, q2⟩ := onIns_ok (P := fun r => PostG g (Rep g) W w1 σ r Q) s1.h r1 cm (fun z => z) q1
    cases e2 : fs.lookup x with
    | some _ => rw [e2] at q2; exact q2.elim
    | none =>
      rw [e2] at q2
      exact ⟨w1, h1, n', a, dx, fvs, s1, r1, rfl, e1, rf.look_none e2, q2⟩
  · subst ex
    obtain rfl : u = Value.ref a := rx
    refine getmeth_ok I1 ea cl hm l ?_
    refine PySem.W.callWith_K (first := [.ref a]) (h₀ := X.base) I.ok.mod.kin hm.kp (thn (ha.run pos pins s1 σ H1 (fun vs H2 => ∃ w2 l h2, SimH g w2 h2 H2 ∧ Reps g w2 (.ref n' :: l) (.ref a :: vs) ∧ l.length + 1 = n ∧ PostG g (Rep g) W w2 σ (mm (.ref n' :: l) h2) Q) I1
        (RdG.mk s1m (PostG.bind s1m q1 fun w2 l h2 vs H2 l2 s2 r2 q2 => ?_))) fun us s2 ⟨vs, H2, I2, r, w2, l', h2, sh, rr, hl, q2⟩ => ⟨I2.kIn, ?_⟩) hst hpl
    · split at q2
      · rename_i hl
        exact ⟨w2, l, h2, s2.h, .cons (rn.mono l2) r2, hl, q2⟩
      · exact q2.elim
    · refine run_fnS (us := .ref a :: us) (vs := .ref a :: vs) (E := WE W) F hr hb (passAt tk σ) I2 (.cons rfl r) ⟨?_, w2, _, h2, sh, rr, q2.slots⟩
      have := rr.length
      simp only [List.length_cons] at this ⊢
      omega
theorem me_meth0 {pl : Sem Bool} (hk : X.K = g.K) (M : MeM X.prog X.w X.mg X.base g k c x qual st ps n mm) (hr : Room k X.A) (tk : Takes X W) (he : PE X o (RdE g W p mo))
    (ht : eval (.Call (.Attribute o x apos) [] [] pos) X.env = (do
      let ov ← eval o X.env
      standAt apos.atName
      let (f, first) ← holding [ov] (getMethod ov x pl)
      callWith pos f first (backTo pos (starEach [] X.env)) (backToKw pos (keywordEach [] X.env))) := by rfl) :
    PE X (.Call (.Attribute o x apos) [] [] pos) (RdE g W p (mMeth c n x mm mo mNil)) := by
  obtain ⟨C, f, fd, cm, hm, Fu, F, hb, hn⟩ := M
  refine ⟨fun pins s σ H Q I ⟨w, ds, h, sm, q⟩ => ?_⟩
  have cl := cm.cls
  rw [← hk] at F hb hm cl
  refine PySem.W.methodCall_KW (pl := pl) (thn (he.run pins s σ H (fun xv H1 => ∃ w1 h1 n' a dx fvs, Sm g w1 ds σ h1 H1 p ∧ Rep g w1 (.ref n') xv ∧ xv = .ref a ∧ H1 a = some (.ins C dx fvs) ∧ fvs.lookup x = none ∧
      PostG g (Rep g) W w1 σ (if 0 + 1 = n then mm [.ref n'] h1 else .stuck) Q) I
      (RdG.mk sm (PostG.bind sm q fun w1 d h1 xv H1 l1 s1 r1 q1 => ?_))) fun u s1 ⟨xv, H1, I1, rx, w1, h1, n', a, dx, fvs, s1m, rn, ex, ea, l, q1⟩ => ?_) ht
  · obtain ⟨n', a, dx, fs, fvs, rfl, rfl, hmu, hn', hF, e1, rf, q2⟩ := onIns_ok (P := fun r => PostG g (Rep g) W w1 σ r Q) s1.h r1 cm (fun z => z) q1
    cases e2 : fs.lookup x with
    | some _ => rw [e2] at q2; exact q2.elim
    | none =>
      rw [e2] at q2
      exact ⟨w1, h1, n', a, dx, fvs, s1, r1, rfl, e1, rf.look_none e2, q2⟩
  · subst ex
    obtain rfl : u = Value.ref a := rx
    refine getmeth_ok I1 ea cl hm l ?_
    split at q1
    · rename_i hl
      refine PySem.W.callWith_K0 (first := [.ref a]) I1.kIn hm.kp (run_fnS (us := [.ref a]) (vs := [.ref a]) (E := WE W) F hr hb (passAt tk σ) I1 (.cons rfl .nil) ⟨by simp; omega, w1, _, h1, s1m.h, .cons rn .nil, q1.slots⟩)
    · exact q1.elim

/-! ### keywords -/
def permL {α : Type} (ix : List Nat) (l : List α) : List α := ix.filterMap (l[·]?)
theorem Vals.perm {vs : List V} {us : List Value} (r : Vals vs us) : ∀ ix : List Nat, Vals (permL ix vs) (permL ix us)
  | [] => .nil
  | i :: ix => by
    have ih := Vals.perm r ix
    unfold permL at ih ⊢
    rw [List.filterMap_cons, List.filterMap_cons]
    cases e : vs[i]? with
    | none =>
      rw [Vals.none_of r e]
      exact ih
    | some v =>
      obtain ⟨u, h1, h2⟩ := Vals.get r e
      rw [h1]
      exact .cons h2 ih
theorem Reps.perm {w : Wd} {l : List D} {vs : List V} (r : Reps g w l vs) : ∀ ix : List Nat, Reps g w (permL ix l) (permL ix vs)
  | [] => .nil
  | i :: ix => by
    have ih := Reps.perm r ix
    unfold permL at ih ⊢
    rw [List.filterMap_cons, List.filterMap_cons]
    cases e : l[i]? with
    | none =>
      have : vs[i]? = none := by
        rw [List.getElem?_eq_none_iff] at e ⊢
        rw [← r.length]; exact e
      rw [this]
      exact ih
    | some d =>
      obtain ⟨v, h1, h2⟩ := r.get e
      rw [h1]
      exact .cons h2 ih
variable {kws : List Keyword} {ks : List Str} {kpos : Pos} {nm : Option Str} {ix : List Nat} {na nk : Nat}
theorem PK.imp {kws : List Keyword} {t t' : TA} (h : PK X kws t) (f : ∀ σ H Q, t' σ H Q → t σ H Q) : PK X kws t' := ⟨fun pos pins s σ H Q I q => h.run pos pins s σ H Q I (f σ H Q q)⟩
theorem mk_nil : PK X [] (RdA g W p mNil) := PK.imp pk_nil fun σ H Q ⟨w, ds, h, s, q⟩ => q w [] H (Le.refl w) s.h .nil
theorem mk_cons (ha : PE X e (RdE g W p m)) (hr : PK X kws (RdA g W p mk)) : PK X (⟨nm, e, kpos⟩ :: kws) (RdA g W p (mCons m mk)) := by
  refine PK.imp (pk_cons ha hr) fun σ H Q ⟨w, ds, h, s, q⟩ => ?_
  refine RdG.mk s (PostG.bind s q fun w1 d h1 x H1 l1 s1 r1 q1 => ?_)
  refine RdG.mk s1 (PostG.bind s1 q1 fun w2 e h2 y H2 l2 s2 r2 q2 => ?_)
  exact q2 w2 (x :: y) H2 (Le.refl _) s2.h (.cons (r1.mono l2) r2)
/-- how the def binds na values by place and nk by name -/
def KB (x qual : Str) (st : Stmt) (ps ks : List Str) (na nk : Nat) (ix : List Nat) : Prop := ∀ (kV doc pm : Value) (an : Option Addr) (cdv ct : Value) (us ws : List Value), us.length = na → ws.length = nk →
  bindArgs (PySem.W.fnOf x qual (defArgs st) (defBody st) (defScope st) .none kV doc pm an cdv ct) ⟨us, ks.zip ws⟩ = pure (ps.zip (us ++ permL ix ws))
theorem run_kw {fA : Addr} {fd : FuncData} {pins : List (Addr × Obj)} {σ : L2.St} {H : Hp} {s : Shared} {Q : VK} {us ws : List Value} {vs zs : List V} {sp : Sp} {E : L2.St → XK} (Fu : Fun X.K x qual st fA fd) (F : FnOk X.prog X.w X.K X.mg X.base (L2.CX X.prog X.w) k fA fd ps sp) (hr : Room k X.A) (kb : KB x qual st ps ks na nk ix) (hx : PassesAt (L2.CX X.prog X.w) X σ (E σ))
    (I : Inv X pins σ H s) (r : Vals vs us) (rz : Vals zs ws) (hna : us.length = na) (hnk : ws.length = nk) (h : sp (vs ++ permL ix zs) H Q (E σ)) : wpAny (model X.prog X.w) X.A (call (.ref fA) us (ks.zip ws)) (EP X pins σ Q) X.xe s := by
  have r2 : Vals (vs ++ permL ix zs) (us ++ permL ix ws) := r.append (Vals.perm rz ix)
  obtain ⟨oc, od, kV, doc, pm, an, cdv, ct, osl, rfl, lk, hcd⟩ := Fu.ex
  have b : BindsTo s (PySem.W.fnOf x qual (defArgs st) (defBody st) (defScope st) .none kV doc pm an cdv ct) ⟨us, ks.zip ws⟩ (ps.zip (us ++ permL ix ws)) := BindsTo.of_eq (kb kV doc pm an cdv ct us ws hna hnk)
  refine wpAny_call (codeAny_mono (F.run X.A X.stack s H ⟨us, ks.zip ws⟩ (us ++ permL ix ws) (vs ++ permL ix zs) Q (E σ) hr I.env0 b r2 h) fun r s' hq => ?_)
  cases r with
  | error e => exact hx pins H s e s' I hq
  | ok fl =>
    cases fl with
    | ret u => exact I.after hq
    | next => exact False.elim hq
    | brk => exact False.elim hq
    | cont => exact False.elim hq
/-- f(k = v, ..) -/
def mCallK (na nk n : Nat) (ix : List Nat) (m : List D → MH → Res D) (ma mk : MA) : ME := fun ds h => (ma ds h).bind fun l h1 => (mk ds h1).bind fun z h2 => if l.length = na ∧ z.length = nk ∧ (l ++ permL ix z).length = n then m (l ++ permL ix z) h2 else .stuck
theorem me_callK0 (hk : X.K = g.K) (F : FnM X.prog X.w X.mg X.base g k x qual st ps n mm) (hr : Room k X.A) (tk : Takes X W) (kb : KB x qual st ps ks 0 nk ix) (hkw : PK X kws (RdA g W p mk)) (hg : Gl X x := by rfl)
    (hall : (backToKw pos (keywordEach kws X.env)).all (·.1.isSome) = true := by rfl) (hks : (backToKw pos (keywordEach kws X.env)).filterMap (·.1) = ks := by rfl) (hdb : (x == ("__debug__" : Str)) = false := by decide)
    (hpl : ((backTo pos (starEach [] X.env)).any (·.1) || (backToKw pos (keywordEach kws X.env)).any (·.1.isNone)) = false := by rfl) : PE X (.Call (.Name x pp) [] kws pos) (RdE g W p (mCallK 0 nk n ix mm mNil mk)) := by
  obtain ⟨f, fd, Fu, F, hm, hb, hn⟩ := F
  rw [← hk] at F Fu
  refine ⟨fun pins s σ H Q I ⟨w, ds, h, sm, q⟩ => ?_⟩
  refine wpAny_Call_Name_kw (ld_glob I hg hm ?_ hdb)
  refine PySem.W.callWith_KW0 (h₀ := X.base) I.ok.mod.kin Fu.kp hall (thn (hkw.run pos pins s σ H (fun zs H2 => ∃ w2 z h2, SimH g w2 h2 H2 ∧ Reps g w2 z zs ∧ z.length = nk ∧ (permL ix z).length = n ∧ PostG g (Rep g) W w2 σ (mm (permL ix z) h2) Q) I
    (RdG.mk sm (PostG.bind sm q fun w2 z h2 zs H2 l2 s2 r2 q2 => ?_))) fun ws s2 ⟨zs, H2, I2, rz, w2, z, h2, sh, r2, h3, h4, q2⟩ => ⟨I2.kIn, ?_⟩) hpl
  · split at q2
    · rename_i hl
      exact ⟨w2, z, h2, s2.h, r2, hl.2.1, by simpa using hl.2.2, by simpa using q2⟩
    · exact q2.elim
  · rw [hks]
    have e1 := r2.length
    have e2 := rz.length
    refine run_kw (us := []) (vs := []) (E := WE W) Fu F hr kb (passAt tk σ) I2 .nil rz rfl (by omega) ⟨?_, w2, _, h2, sh, by simpa using r2.perm ix, q2.slots⟩
    simpa [(r2.perm ix).length] using h4
theorem me_callK (hk : X.K = g.K) (F : FnM X.prog X.w X.mg X.base g k x qual st ps n mm) (hr : Room k X.A) (tk : Takes X W) (kb : KB x qual st ps ks na nk ix) (ha : PA X (e :: es) (RdA g W p ma)) (hkw : PK X kws (RdA g W p mk)) (hg : Gl X x := by rfl)
    (hall : (backToKw pos (keywordEach kws X.env)).all (·.1.isSome) = true := by rfl) (hks : (backToKw pos (keywordEach kws X.env)).filterMap (·.1) = ks := by rfl) (hdb : (x == ("__debug__" : Str)) = false := by decide)
    (he : starEach (e :: es) X.env = (false, eval e X.env) :: starEach es X.env := by rfl)
    (hpl : ((backTo pos (starEach (e :: es) X.env)).any (·.1) || (backToKw pos (keywordEach kws X.env)).any (·.1.isNone)) = false := by rfl) : PE X (.Call (.Name x pp) (e :: es) kws pos) (RdE g W p (mCallK na nk n ix mm ma mk)) := by
  obtain ⟨f, fd, Fu, F, hm, hb, hn⟩ := F
  rw [← hk] at F Fu
  refine ⟨fun pins s σ H Q I ⟨w, ds, h, sm, q⟩ => ?_⟩
  refine wpAny_Call_Name_kw (ld_glob I hg hm ?_ hdb)
  refine PySem.W.callWith_KW (h₀ := X.base) I.ok.mod.kin Fu.kp hall (thn (ha.run pos pins s σ H (fun vs H1 => ∃ w1 l h1, Sm g w1 ds σ h1 H1 p ∧ Reps g w1 l vs ∧ PostG g (Rep g) W w1 σ ((mk ds h1).bind fun z h2 => if l.length = na ∧ z.length = nk ∧ (l ++ permL ix z).length = n then mm (l ++ permL ix z) h2 else .stuck) Q) I
    (RdG.mk sm (PostG.bind sm q fun w1 l h1 vs H1 l1 s1 r1 q1 => ⟨w1, l, h1, s1, r1, q1⟩))) fun us s1 ⟨vs, H1, I1, r, w1, l, h1, s1m, r1, q1⟩ => ?_) hpl he
  refine thn (hkw.run pos pins s1 σ H1 (fun zs H2 => ∃ w2 z h2, SimH g w2 h2 H2 ∧ Reps g w2 (l ++ permL ix z) (vs ++ permL ix zs) ∧ z.length = zs.length ∧ l.length = na ∧ z.length = nk ∧ (l ++ permL ix z).length = n ∧ PostG g (Rep g) W w2 σ (mm (l ++ permL ix z) h2) Q) I1
    (RdG.mk s1m (PostG.bind s1m q1 fun w2 z h2 zs H2 l2 s2 r2 q2 => ?_))) fun ws s2 ⟨zs, H2, I2, rz, w2, z, h2, sh, r2, ez, h3, h4, h5, q2⟩ => ⟨I2.kIn, ?_⟩
  · split at q2
    · rename_i hl
      exact ⟨w2, z, h2, s2.h, (Reps.mono l2 _ r1).append (r2.perm ix), r2.length, hl.1, hl.2.1, hl.2.2, q2⟩
    · exact q2.elim
  · rw [hks]
    have e1 := r.length
    have e2 := rz.length
    have e3 := r1.length
    refine run_kw (us := us) (vs := vs) (E := WE W) Fu F hr kb (passAt tk σ) I2 r rz (by omega) (by omega) ⟨?_, w2, _, h2, sh, r2, q2.slots⟩
    rw [← r2.length]; exact h5
/-- o.x(k = v, ..) -/
def mMethK (c nk n : Nat) (ix : List Nat) (x : Str) (m : List D → MH → Res D) (mo : ME) (mk : MA) : ME := fun ds h => (mo ds h).bind fun d h1 => onIns d h1 c fun _ fs => match fs.lookup x with
  | none => (mk ds h1).bind fun z h2 => if z.length = nk ∧ (permL ix z).length + 1 = n then m (d :: permL ix z) h2 else .stuck
  | some _ => .stuck
theorem me_methK0 {pl : Sem Bool} (hk : X.K = g.K) (M : MeM X.prog X.w X.mg X.base g k c x qual st ps n mm) (hr : Room k X.A) (tk : Takes X W) (kb : KB x qual st ps ks 1 nk ix) (he : PE X o (RdE g W p mo)) (hkw : PK X kws (RdA g W p mk))
    (hall : (backToKw pos (keywordEach kws X.env)).all (·.1.isSome) = true := by rfl) (hks : (backToKw pos (keywordEach kws X.env)).filterMap (·.1) = ks := by rfl)
    (hpl : ((backTo pos (starEach [] X.env)).any (·.1) || (backToKw pos (keywordEach kws X.env)).any (·.1.isNone)) = false := by rfl)
    (ht : eval (.Call (.Attribute o x apos) [] kws pos) X.env = (do
      let ov ← eval o X.env
      standAt apos.atName
      let (f, first) ← holding [ov] (getMethod ov x pl)
      callWith pos f first (backTo pos (starEach [] X.env)) (backToKw pos (keywordEach kws X.env))) := by rfl) :
    PE X (.Call (.Attribute o x apos) [] kws pos) (RdE g W p (mMethK c nk n ix x mm mo mk)) := by
  obtain ⟨C, f, fd, cm, hm, Fu, F, hb, hn⟩ := M
  refine ⟨fun pins s σ H Q I ⟨w, ds, h, sm, q⟩ => ?_⟩
  have cl := cm.cls
  rw [← hk] at F Fu hb hm cl
  refine PySem.W.methodCall_KW (pl := pl) (thn (he.run pins s σ H (fun xv H1 => ∃ w1 h1 n' a dx fvs, Sm g w1 ds σ h1 H1 p ∧ Rep g w1 (.ref n') xv ∧ xv = .ref a ∧ H1 a = some (.ins C dx fvs) ∧ fvs.lookup x = none ∧
      PostG g (Rep g) W w1 σ ((mk ds h1).bind fun z h2 => if z.length = nk ∧ (permL ix z).length + 1 = n then mm (.ref n' :: permL ix z) h2 else .stuck) Q) I
      (RdG.mk sm (PostG.bind sm q fun w1 d h1 xv H1 l1 s1 r1 q1 => ?_))) fun u s1 ⟨xv, H1, I1, rx, w1, h1, n', a, dx, fvs, s1m, rn, ex, ea, l, q1⟩ => ?_) ht
  · obtain ⟨n', a, dx, fs, fvs, rfl, rfl, hmu, hn', hF, e1, rf, q2⟩ := onIns_ok (P := fun r => PostG g (Rep g) W w1 σ r Q) s1.h r1 cm (fun z => z) q1
    cases e2 : fs.lookup x with
    | some _ => rw [e2] at q2; exact q2.elim
    | none =>
      rw [e2] at q2
      exact ⟨w1, h1, n', a, dx, fvs, s1, r1, rfl, e1, rf.look_none e2, q2⟩
  · subst ex
    obtain rfl : u = Value.ref a := rx
    refine getmeth_ok I1 ea cl hm l ?_
    refine PySem.W.callWith_KW0 (first := [.ref a]) (h₀ := X.base) I.ok.mod.kin hm.kp hall (thn (hkw.run pos pins s1 σ H1 (fun zs H2 => ∃ w2 z h2, SimH g w2 h2 H2 ∧ Reps g w2 (.ref n' :: permL ix z) (.ref a :: permL ix zs) ∧ z.length = zs.length ∧ z.length = nk ∧ (permL ix z).length + 1 = n ∧ PostG g (Rep g) W w2 σ (mm (.ref n' :: permL ix z) h2) Q) I1
        (RdG.mk s1m (PostG.bind s1m q1 fun w2 z h2 zs H2 l2 s2 r2 q2 => ?_))) fun ws s2 ⟨zs, H2, I2, r, w2, z, h2, sh, rr, ez, h3, h4, q2⟩ => ⟨I2.kIn, ?_⟩) hpl
    · split at q2
      · rename_i hl
        exact ⟨w2, z, h2, s2.h, .cons (rn.mono l2) (r2.perm ix), r2.length, hl.1, hl.2, q2⟩
      · exact q2.elim
    · rw [hks]
      have e2 := r.length
      refine run_kw (us := [.ref a]) (vs := [.ref a]) (E := WE W) Fu F hr kb (passAt tk σ) I2 (.cons rfl .nil) r rfl (by omega) ⟨?_, w2, _, h2, sh, rr, q2.slots⟩
      have := rr.length
      simp only [List.length_cons] at this
      simp only [List.length_append, List.length_cons, List.length_nil]
      omega
end
end ML
set_option Elab.async false
set_option linter.all false
set_option maxRecDepth 100000
set_option maxHeartbeats 2000000
set_option autoImplicit false
/-! M: loops, comprehensions. -/
namespace ML
open PySem PySem.Spec PyProof.Rows L2

/-- w' tells what w told of what isn't held -/
structure LeF (w w' : Wd) : Prop where
  F : ∀ a o, w.F a = some o → w'.F a = some o
  mu : ∀ (n : Nat) (a : Addr), w.mu[n]? = some a → w'.mu[n]? = some a
theorem Le.f {w w' : Wd} (l : Le w w') : LeF w w' := ⟨l.F, l.mu⟩
theorem LeF.trans {a b c : Wd} (x : LeF a b) (y : LeF b c) : LeF a c := ⟨fun p o h => y.F p o (x.F p o h), fun n p h => y.mu n p (x.mu n p h)⟩
/-- a walk over the things l -/
structure ItM {ι : Type} (g : Gd) (R : Wd → Hp → ι → V → Prop) (w : Wd) (l : List ι) (J : It) : Prop where
  go : ∀ w2 h2 H2 i, LeF w w2 → SimH g w2 h2 H2 → i < l.length → J.go i H2
  stop : ∀ w2 h2 H2, LeF w w2 → SimH g w2 h2 H2 → J.stop l.length H2
  yld : ∀ w2 h2 H2 i d x H', LeF w w2 → SimH g w2 h2 H2 → l[i]? = some d → J.yld i H2 x H' → SimH g w2 h2 H' ∧ R w2 H' d x
abbrev MI (ι : Type) := Sl → MH → Res (List ι)
def RdI {ι : Type} (g : Gd) (R : Wd → Hp → ι → V → Prop) (W : WX) (p : Pn) (m : MI ι) : TI := fun σ H Q => RdG g (ItM g R) W p m σ H Q
theorem PI.imp {X : Cx} {tg e : Expr} {t t' : TI} (h : PI X tg e t) (f : ∀ σ H Q, t' σ H Q → t σ H Q) : PI X tg e t' := ⟨fun pins s σ H R I q => h.run pins s σ H R I (f σ H R q)⟩

def forL {ι : Type} (mg : MGx ι) (b : MS) : List ι → MS
  | [], ds, h => .next ds h
  | d :: l, ds, h => match mg d ds h with
    | none => .stuck
    | some (ds1, h1) => match b ds1 h1 with
      | .next ds2 h2 => forL mg b l ds2 h2
      | .cont ds2 h2 => forL mg b l ds2 h2
      | .brk ds2 h2 => .next ds2 h2
      | r => r
def mFor {ι : Type} (mi : MI ι) (mg : MGx ι) (b : MS) : MS := fun ds h => lift (mi ds h) ds fun l h1 => forL mg b l ds h1
section
variable {ι : Type} {X : Cx} {g : Gd} {W : WX} {p : Pn} {R : Wd → Hp → ι → V → Prop} {tg iter : Expr} {body : List Stmt} {mi : MI ι} {mg : MGx ι} {b : MS} {pos : Pos}
theorem ms_for (vs : List Nat) (hp : PassesOwn (model X.prog X.w) X.A X.env X.xe) (hc : X.calm = true) (hi : PI X tg iter (RdI g R W p mi)) (hg : PG X tg (RdGt g p R vs mg)) (hb : PSs X body (RdS g W p b))
    (hs : ∀ x, foldedSetIterable iter X.env x = pure x := by intro _; rfl) : PS X (.For tg iter body [] pos) (RdS g W p (mFor mi mg b)) := by
  refine PS.imp (ps_for hp hc hi hg hb hs) fun D σ H ⟨w, ds, h, s, q⟩ => ?_
  refine RdG.mk s (PostS.lift s q fun w1 l h1 J H1 l1 s1 r1 q1 => ?_)
  refine ⟨fun i m σ H => m = l.length - i ∧ i ≤ l.length ∧ ∃ w' ds' h', Le w1 w' ∧ Sm g w' ds' σ h' H p ∧ PostS g W p w' (forL mg b (l.drop i) ds' h') D, ⟨_, rfl, Nat.zero_le _, w1, ds, h1, Le.refl _, s1, q1⟩, ?_⟩
  rintro i m σ H ⟨rfl, hi, w', ds', h', lw, s', q'⟩
  by_cases hlt : i < l.length
  · have hd : l[i]? = some l[i] := by simp [hlt]
    have hdr : l.drop i = l[i] :: l.drop (i + 1) := (List.getElem_cons_drop hlt).symm
    refine .inr ⟨r1.go w' h' H i lw.f s'.h hlt, fun σ' H' => ∃ w' ds' h', Le w1 w' ∧ Sm g w' ds' σ' h' H' p ∧ PostS g W p w' (forL mg b (l.drop (i + 1)) ds' h') D,
      fun σ' H' z => ⟨l.length - (i + 1), by omega, rfl, hlt, z⟩, fun x H' y => ?_⟩
    obtain ⟨sh, rx⟩ := r1.yld w' h' H i l[i] x H' lw.f s'.h hd y
    rw [hdr] at q'
    simp only [forL] at q'
    refine ⟨w', ds', h', l[i], ⟨s'.s, sh, s'.p⟩, rx, ?_⟩
    cases e1 : mg l[i] ds' h' with
    | none => rw [e1] at q'; exact q'.elim
    | some z =>
      obtain ⟨ds1, h1⟩ := z
      rw [e1] at q'
      intro w2 σ2 H2 l2 s2 _
      refine ⟨w2, ds1, h1, s2, ?_⟩
      simp only at q'
      cases e2 : b ds1 h1 with
      | next ds2 h2 => rw [e2] at q'; exact fun w3 σ3 H3 l3 s3 => ⟨w3, ds2, h2, lw.trans (l2.trans l3), s3, PostS.mono (l2.trans l3) q'⟩
      | cont ds2 h2 => rw [e2] at q'; exact fun w3 σ3 H3 l3 s3 => ⟨w3, ds2, h2, lw.trans (l2.trans l3), s3, PostS.mono (l2.trans l3) q'⟩
      | brk ds2 h2 => rw [e2] at q'; exact fun w3 σ3 H3 l3 s3 => q' w3 σ3 H3 (l2.trans l3) s3
      | ret d h2 => rw [e2] at q'; exact fun w3 v H3 l3 s3 r3 => q' w3 v H3 (l2.trans l3) s3 r3
      | exc x ds2 h2 => rw [e2] at q'; exact fun w3 σ3 c dd H3 l3 s3 r3 => q' w3 σ3 c dd H3 (l2.trans l3) s3 r3
      | stuck => rw [e2] at q'; exact q'.elim
  · have e : i = l.length := by omega
    subst e
    rw [List.drop_length] at q'
    exact .inl ⟨r1.stop w' h' H lw.f s'.h, q' w' σ H (Le.refl _) s'⟩
end

/-! ### what is walked over -/
/-- the items of a tuple, of an unchanging list, the signs of a text, the keys of an unchanging dict -/
def itsT (d : D) : Option (List D) := match d with | .tup l => some l | _ => none
def itsL (d : D) : Option (List D) := match d with | .lst l => some l | .scr l => some l | _ => none
def itsS (d : D) : Option (List D) := match d with | .str x => some (x.cps.toList.map fun c => .str ⟨#[c]⟩) | _ => none
def mItm (its : D → Option (List D)) (m : ME) : MI D := fun ds h => (m ds h).bind fun d h1 => match its d with
  | some l => .ok l h1 | none => .stuck
/-- of the arguments -/
def mArgs {ι : Type} (f : List D → Option (List ι)) (ma : MA) : MI ι := fun ds h => (ma ds h).bind fun l h1 => match f l with
  | some r => .ok r h1 | none => .stuck
def rng1 (l : List D) : Option (List D) := match l with
  | [.int j] => if -(2 ^ 62) ≤ j ∧ j < 2 ^ 62 then some ((List.range j.toNat).map fun (i : Nat) => .int (i : Int)) else none | _ => none
def rng2 (l : List D) : Option (List D) := match l with
  | [.int i, .int j] => if -(2 ^ 62) ≤ i ∧ i < 2 ^ 62 ∧ -(2 ^ 62) ≤ j ∧ j < 2 ^ 62 then some ((List.range (j - i).toNat).map fun (n : Nat) => .int (i + (n : Int))) else none | _ => none
def enumL : Nat → List D → List (List D)
  | _, [] => []
  | i, d :: l => [.int (i : Int), d] :: enumL (i + 1) l
def enumA (l : List D) : Option (List (List D)) := match l with
  | [d] => (itsL d).map (enumL 0) | _ => none
def zipD (a b : D) : Option (List (List D)) := match itsL a, itsL b with
  | some x, some y => some (List.zipWith (fun p q => [p, q]) x y)
  | _, _ => match itsT a, itsT b with
    | some x, some y => some (List.zipWith (fun p q => [p, q]) x y)
    | _, _ => none
def zipA (l : List D) : Option (List (List D)) := match l with
  | [a, b] => zipD a b | _ => none
theorem enumL_len : ∀ (l : List D) (i : Nat), (enumL i l).length = l.length
  | [], _ => rfl
  | _ :: l, i => by simp [enumL, enumL_len l]
theorem enumL_get : ∀ (l : List D) (i j : Nat), (enumL i l)[j]? = (l[j]?).map fun d => [.int ((i + j : Nat) : Int), d]
  | [], _, _ => by simp [enumL]
  | d :: l, i, 0 => by simp [enumL]
  | d :: l, i, j + 1 => by
    simp only [enumL, List.getElem?_cons_succ]
    rw [enumL_get l (i + 1) j, show i + 1 + j = i + (j + 1) by omega]
section
variable {X : Cx} {g : Gd} {W : WX} {p : Pn} {e e2 tg : Expr} {m m2 : ME} {pp pos tpos : Pos} {elts : List Expr} {kk : Nat}
theorem itm_tup {w : Wd} {l : List D} {a : Addr} {vs : List V} (sq : SqT g.K w.F a vs) (r : Reps g w l vs) : ItM g (rD g) w l (Itt g.K a) := by
  refine ⟨fun w2 h2 H2 i lw s hi => ?_, fun w2 h2 H2 lw s => ?_, fun w2 h2 H2 i d x H' lw s hi y => ?_⟩
  · have : i < vs.length := by rw [← r.length]; exact hi
    exact ⟨vs, vs[i], SqT.mono (fun a o e => s.sub a o (lw.F a o e)) sq, by simp [this]⟩
  · exact ⟨vs, SqT.mono (fun a o e => s.sub a o (lw.F a o e)) sq, by rw [r.length]; exact Nat.le_refl _⟩
  · obtain ⟨e, y⟩ := y
    subst e
    obtain ⟨v, h1, h2⟩ := r.get hi
    have := y vs (SqT.mono (fun a o e => s.sub a o (lw.F a o e)) sq)
    rw [this] at h1; cases h1
    exact ⟨s, Rep.mono2 lw.F lw.mu d h2⟩
theorem itm_lst {w : Wd} {l : List D} {a : Addr} {vs : List V} (sq : SqL g.K w.F a vs) (r : Reps g w l vs) : ItM g (rD g) w l (Itl g.K a) := by
  refine ⟨fun w2 h2 H2 i lw s hi => ?_, fun w2 h2 H2 lw s => ?_, fun w2 h2 H2 i d x H' lw s hi y => ?_⟩
  · have : i < vs.length := by rw [← r.length]; exact hi
    exact ⟨vs, vs[i], SqL.mono (fun a o e => s.sub a o (lw.F a o e)) sq, by simp [this]⟩
  · exact ⟨vs, SqL.mono (fun a o e => s.sub a o (lw.F a o e)) sq, by rw [r.length]; exact Nat.le_refl _⟩
  · obtain ⟨e, y⟩ := y
    subst e
    obtain ⟨v, h1, h2⟩ := r.get hi
    have := y vs (SqL.mono (fun a o e => s.sub a o (lw.F a o e)) sq)
    rw [this] at h1; cases h1
    exact ⟨s, Rep.mono2 lw.F lw.mu d h2⟩
theorem Rep.itsT {w : Wd} {d : D} {v : V} {l : List D} (r : Rep g w d v) (e : itsT d = some l) : ∃ a vs, v = .ref a ∧ SqT g.K w.F a vs ∧ Reps g w l vs := by
  cases d <;> simp only [ML.itsT, Option.some.injEq, reduceCtorEq] at e
  subst e
  simp only [Rep] at r
  obtain ⟨a, vs, e, s, r⟩ := r
  exact ⟨a, vs, e, s.sq, r⟩
theorem Rep.itsL {w : Wd} {d : D} {v : V} {l : List D} (r : Rep g w d v) (e : itsL d = some l) : ∃ a vs, v = .ref a ∧ SqL g.K w.F a vs ∧ Reps g w l vs := by
  cases d <;> simp only [ML.itsL, Option.some.injEq, reduceCtorEq] at e
  · subst e
    simp only [Rep] at r
    obtain ⟨a, vs, e, s, r⟩ := r
    exact ⟨a, vs, e, .inl (.inl s), r⟩
  · subst e
    simp only [Rep] at r
    exact r
theorem mi_tup (hk : X.K = g.K) (he : PE X e (RdE g W p m)) : PI X tg e (RdI g (rD g) W p (mItm itsT m)) := by
  refine PI.imp (pi_tup he) fun σ H Q ⟨w, ds, h, s, q⟩ => ?_
  refine RdG.mk s (PostG.bind s q fun w1 d h1 x H1 l1 s1 r1 q1 => ?_)
  cases e1 : itsT d with
  | none => rw [e1] at q1; exact q1.elim
  | some l =>
    rw [e1] at q1
    obtain ⟨a, vs, rfl, sq, r⟩ := r1.itsT e1
    rw [hk]
    exact ⟨a, rfl, ⟨vs, SqT.mono s1.h.sub sq⟩, q1 w1 _ H1 (Le.refl _) s1.h (itm_tup sq r)⟩
theorem mi_lst (hk : X.K = g.K) (he : PE X e (RdE g W p m)) : PI X tg e (RdI g (rD g) W p (mItm itsL m)) := by
  refine PI.imp (pi_list he) fun σ H Q ⟨w, ds, h, s, q⟩ => ?_
  refine RdG.mk s (PostG.bind s q fun w1 d h1 x H1 l1 s1 r1 q1 => ?_)
  cases e1 : itsL d with
  | none => rw [e1] at q1; exact q1.elim
  | some l =>
    rw [e1] at q1
    obtain ⟨a, vs, rfl, sq, r⟩ := r1.itsL e1
    rw [hk]
    exact ⟨a, rfl, ⟨vs, SqL.mono s1.h.sub sq⟩, q1 w1 _ H1 (Le.refl _) s1.h (itm_lst sq r)⟩
theorem mi_str (he : PE X e (RdE g W p m)) : PI X tg e (RdI g (rD g) W p (mItm itsS m)) := by
  refine PI.imp (pi_str he) fun σ H Q ⟨w, ds, h, s, q⟩ => ?_
  refine RdG.mk s (PostG.bind s q fun w1 d h1 x H1 l1 s1 r1 q1 => ?_)
  cases d with
  | str x =>
    simp only [Rep] at r1
    subst r1
    refine ⟨x, rfl, q1 w1 _ H1 (Le.refl _) s1.h ⟨fun w2 h2 H2 i lw s hi => ?_, fun w2 h2 H2 lw s => ?_, fun w2 h2 H2 i d y H' lw s hi z => ?_⟩⟩
    · show i < x.cps.size
      simpa using hi
    · show x.cps.size ≤ _
      simp
    · obtain ⟨e, c, e1, e2⟩ := z
      subst e e2
      refine ⟨s, ?_⟩
      simp only [List.getElem?_map, Array.getElem?_toList, e1, Option.map_some, Option.some.injEq] at hi
      subst hi
      simp [rD, Rep]
  | _ => exact q1.elim
theorem itm_rng {w : Wd} (lo : Int) (n : Nat) : ItM g (rD g) w ((List.range n).map fun (i : Nat) => D.int (lo + (i : Int))) (Itr lo n) := by
  refine ⟨fun w2 h2 H2 i lw s hi => ?_, fun w2 h2 H2 lw s => ?_, fun w2 h2 H2 i d y H' lw s hi z => ?_⟩
  · show i < n
    simpa using hi
  · show n ≤ _
    simp
  · obtain ⟨e, e2⟩ := z
    subst e e2
    refine ⟨s, ?_⟩
    rw [List.getElem?_map] at hi
    by_cases hn : i < n
    · rw [List.getElem?_range hn] at hi
      simp at hi
      subst hi
      simp [rD, Rep]
    · rw [List.getElem?_eq_none (by simpa using hn)] at hi
      cases hi
variable {ma : MA} {a b : Expr}
theorem mi_rng1 (hg : Gl X "range") (hm : X.mg "range" = none) (ha : PA X [a] (RdA g W p ma)) (hs : starEach [a] X.env = [(false, eval a X.env)] := by rfl) :
    PI X tg (.Call (.Name "range" pp) [a] [] pos) (RdI g (rD g) W p (mArgs rng1 ma)) := by
  refine PI.imp (pi_range1 hg hm ha hs) fun σ H Q ⟨w, ds, h, s, q⟩ => ?_
  refine RdG.mk s (PostG.bind s q fun w1 l h1 vs H1 l1 s1 r1 q1 => ?_)
  cases e : rng1 l with
  | none => rw [e] at q1; exact q1.elim
  | some r =>
    rw [e] at q1
    unfold rng1 at e
    split at e
    · rename_i j
      split at e
      · rename_i hj
        cases e
        obtain ⟨v, vr, rfl, ra, r2⟩ := r1.uncons
        cases r2.of_nil
        simp only [Rep] at ra
        subst ra
        exact ⟨j, rfl, hj.1, hj.2, q1 w1 (Itr 0 j.toNat) H1 (Le.refl _) s1.h (by simpa using itm_rng (g := g) (w := w1) 0 j.toNat)⟩
      · cases e
    · cases e
theorem mi_rng2 (hg : Gl X "range") (hm : X.mg "range" = none) (ha : PA X [a, b] (RdA g W p ma)) (hs : starEach [a, b] X.env = [(false, eval a X.env), (false, eval b X.env)] := by rfl) (hs2 : starEach [b] X.env = [(false, eval b X.env)] := by rfl) :
    PI X tg (.Call (.Name "range" pp) [a, b] [] pos) (RdI g (rD g) W p (mArgs rng2 ma)) := by
  refine PI.imp (pi_range2 hg hm ha hs hs2) fun σ H Q ⟨w, ds, h, s, q⟩ => ?_
  refine RdG.mk s (PostG.bind s q fun w1 l h1 vs H1 l1 s1 r1 q1 => ?_)
  cases e : rng2 l with
  | none => rw [e] at q1; exact q1.elim
  | some r =>
    rw [e] at q1
    unfold rng2 at e
    split at e
    · rename_i i j
      split at e
      · rename_i hj
        cases e
        obtain ⟨v, vr, rfl, ra, r2⟩ := r1.uncons
        obtain ⟨v', vr', rfl, r3, r4⟩ := r2.uncons
        cases r4.of_nil
        simp only [Rep] at ra r3
        subst ra r3
        exact ⟨i, j, rfl, hj, q1 w1 (Itr i (j - i).toNat) H1 (Le.refl _) s1.h (itm_rng (g := g) (w := w1) i (j - i).toNat)⟩
      · cases e
    · cases e
theorem mi_enum (hk : X.K = g.K) (hg : Gl X "enumerate") (hm : X.mg "enumerate" = none) (ha : PA X [a] (RdA g W p ma)) (hs : starEach [a] X.env = [(false, eval a X.env)] := by rfl) :
    PI X (.Tuple elts kk tpos) (.Call (.Name "enumerate" pp) [a] [] pos) (RdI g (rP g) W p (mArgs enumA ma)) := by
  refine PI.imp (pi_enum hg hm ha hs) fun σ H Q ⟨w, ds, h, s, q⟩ => ?_
  refine RdG.mk s (PostG.bind s q fun w1 l h1 vs H1 l1 s1 r1 q1 => ?_)
  cases e : enumA l with
  | none => rw [e] at q1; exact q1.elim
  | some r =>
    rw [e] at q1
    unfold enumA at e
    split at e
    · rename_i d
      obtain ⟨v, vr, rfl, ra, r2⟩ := r1.uncons
      cases r2.of_nil
      cases e1 : itsL d with
      | none => rw [e1] at e; cases e
      | some y =>
        rw [e1] at e
        cases e
        obtain ⟨p, us, rfl, sq, r⟩ := ra.itsL e1
        rw [hk]
        refine ⟨p, us, rfl, SqL.mono s1.h.sub sq, q1 w1 _ H1 (Le.refl _) s1.h ⟨fun w2 h2 H2 i lw s hi => ?_, fun w2 h2 H2 lw s => ?_, fun w2 h2 H2 i d x H' lw s hi z => ?_⟩⟩
        · rw [enumL_len] at hi
          have : i < us.length := by rw [← r.length]; exact hi
          exact ⟨us, us[i], SqL.mono (fun a o e => s.sub a o (lw.F a o e)) sq, by simp [this]⟩
        · rw [enumL_len]
          exact ⟨us, SqL.mono (fun a o e => s.sub a o (lw.F a o e)) sq, by rw [r.length]; exact Nat.le_refl _⟩
        · obtain ⟨T, u, rfl, hT, rfl, hu⟩ := z
          rw [enumL_get] at hi
          cases hy : y[i]? with
          | none => rw [hy] at hi; cases hi
          | some c =>
            rw [hy] at hi
            simp at hi
            subst hi
            obtain ⟨v, h1, h2⟩ := r.get hy
            have := hu us (SqL.mono (fun a o e => s.sub a o (lw.F a o e)) sq)
            rw [this] at h1; cases h1
            refine ⟨s.ext (ext_upd hT), T, [.int (i : Nat), u], rfl, .inl (.inl upd_same), .cons (by simp [Rep]) (.cons (Rep.mono2 lw.F lw.mu _ h2) .nil)⟩
    · cases e
theorem zw_get {x y : List D} {i : Nat} {d : List D} (h : (List.zipWith (fun p q => [p, q]) x y)[i]? = some d) : ∃ a b, x[i]? = some a ∧ y[i]? = some b ∧ d = [a, b] := by
  rw [List.getElem?_zipWith] at h
  cases hx : x[i]? <;> cases hy : y[i]? <;> rw [hx, hy] at h <;> simp at h
  rename_i a b
  exact ⟨a, b, rfl, rfl, h.symm⟩
theorem mi_zip (hk : X.K = g.K) (hg : Gl X "zip") (hm : X.mg "zip" = none) (ha : PA X [a, b] (RdA g W p ma))
    (hs : starEach [a, b] X.env = (false, eval a X.env) :: starEach [b] X.env := by rfl) (hpl : (backTo pos (starEach [b] X.env)).any (·.1) = false := by rfl) :
    PI X (.Tuple elts kk tpos) (.Call (.Name "zip" pp) [a, b] [] pos) (RdI g (rP g) W p (mArgs zipA ma)) := by
  refine PI.imp (RZ.pi_zipA hg hm ha hs hpl) fun σ H Q ⟨w, ds, h, s, q⟩ => ?_
  refine RdG.mk s (PostG.bind s q fun w1 l h1 vs H1 l1 s1 r1 q1 => ?_)
  cases e : zipA l with
  | none => rw [e] at q1; exact q1.elim
  | some r =>
    rw [e] at q1
    unfold zipA at e
    split at e
    · rename_i d1 d2
      obtain ⟨v, vr, rfl, ra, r2⟩ := r1.uncons
      obtain ⟨v', vr', rfl, r3, r4⟩ := r2.uncons
      cases r4.of_nil
      unfold zipD at e
      split at e
      · rename_i x y ex ey
        cases e
        obtain ⟨p1, us, rfl, sq, r⟩ := ra.itsL ex
        obtain ⟨p2, us2, rfl, sq2, r2⟩ := r3.itsL ey
        rw [hk]
        refine ⟨p1, p2, us, us2, rfl, .inl ⟨SqL.mono s1.h.sub sq, SqL.mono s1.h.sub sq2, q1 w1 _ H1 (Le.refl _) s1.h ⟨fun w2 h2 H2 i lw s hi => ?_, fun w2 h2 H2 lw s => ?_, fun w2 h2 H2 i d u H' lw s hi z => ?_⟩⟩⟩
        · rw [List.length_zipWith] at hi
          have h1 := r.length
          have h2 := r2.length
          exact ⟨us, us2, us[i]'(by omega), us2[i]'(by omega), SqL.mono (fun a o e => s.sub a o (lw.F a o e)) sq, SqL.mono (fun a o e => s.sub a o (lw.F a o e)) sq2, by simp, by simp⟩
        · rw [List.length_zipWith]
          have h1 := r.length
          have h2 := r2.length
          exact ⟨us, us2, SqL.mono (fun a o e => s.sub a o (lw.F a o e)) sq, SqL.mono (fun a o e => s.sub a o (lw.F a o e)) sq2, by omega⟩
        · obtain ⟨T, u1, u2, rfl, hT, rfl, hu, hu2⟩ := z
          obtain ⟨c1, c2, hc1, hc2, rfl⟩ := zw_get hi
          obtain ⟨v, h1, h2⟩ := r.get hc1
          obtain ⟨v2, h3, h4⟩ := r2.get hc2
          have e1 := hu us (SqL.mono (fun a o e => s.sub a o (lw.F a o e)) sq)
          have e2 := hu2 us2 (SqL.mono (fun a o e => s.sub a o (lw.F a o e)) sq2)
          rw [e1] at h1; cases h1
          rw [e2] at h3; cases h3
          exact ⟨s.ext (ext_upd hT), T, [u1, u2], rfl, .inl (.inl upd_same), .cons (Rep.mono2 lw.F lw.mu _ h2) (.cons (Rep.mono2 lw.F lw.mu _ h4) .nil)⟩
      · split at e
        · rename_i x y ex ey
          cases e
          obtain ⟨p1, us, rfl, sq, r⟩ := ra.itsT ex
          obtain ⟨p2, us2, rfl, sq2, r2⟩ := r3.itsT ey
          rw [hk]
          refine ⟨p1, p2, us, us2, rfl, .inr ⟨SqT.mono s1.h.sub sq, SqT.mono s1.h.sub sq2, q1 w1 _ H1 (Le.refl _) s1.h ⟨fun w2 h2 H2 i lw s hi => ?_, fun w2 h2 H2 lw s => ?_, fun w2 h2 H2 i d u H' lw s hi z => ?_⟩⟩⟩
          · rw [List.length_zipWith] at hi
            have h1 := r.length
            have h2 := r2.length
            exact ⟨us, us2, us[i]'(by omega), us2[i]'(by omega), SqT.mono (fun a o e => s.sub a o (lw.F a o e)) sq, SqT.mono (fun a o e => s.sub a o (lw.F a o e)) sq2, by simp, by simp⟩
          · rw [List.length_zipWith]
            have h1 := r.length
            have h2 := r2.length
            exact ⟨us, us2, SqT.mono (fun a o e => s.sub a o (lw.F a o e)) sq, SqT.mono (fun a o e => s.sub a o (lw.F a o e)) sq2, by omega⟩
          · obtain ⟨T, u1, u2, rfl, hT, rfl, hu, hu2⟩ := z
            obtain ⟨c1, c2, hc1, hc2, rfl⟩ := zw_get hi
            obtain ⟨v, h1, h2⟩ := r.get hc1
            obtain ⟨v2, h3, h4⟩ := r2.get hc2
            have e1 := hu us (SqT.mono (fun a o e => s.sub a o (lw.F a o e)) sq)
            have e2 := hu2 us2 (SqT.mono (fun a o e => s.sub a o (lw.F a o e)) sq2)
            rw [e1] at h1; cases h1
            rw [e2] at h3; cases h3
            exact ⟨s.ext (ext_upd hT), T, [u1, u2], rfl, .inl (.inl upd_same), .cons (Rep.mono2 lw.F lw.mu _ h2) (.cons (Rep.mono2 lw.F lw.mu _ h4) .nil)⟩
        · cases e
    · cases e
end
end ML
set_option Elab.async false
set_option linter.all false
set_option maxRecDepth 100000
set_option maxHeartbeats 2000000
set_option autoImplicit false
/-! M: comprehensions. -/
namespace ML
open PySem PySem.Spec PyProof.Rows L2

/-- an exception is not followed -/
def Res.nx {α : Type} (r : Res α) : Res α := match r with
  | .ok a h => .ok a h | _ => .stuck
@[simp] theorem Res.nx_ok {α : Type} (a : α) (h : MH) : (Res.ok a h).nx = .ok a h := (rfl)
@[simp] theorem Res.nx_exc {α : Type} (x : Exn) (h : MH) : (Res.exc x h : Res α).nx = .stuck := (rfl)
@[simp] theorem Res.nx_stuck {α : Type} : (Res.stuck : Res α).nx = .stuck := (rfl)
abbrev noW : WX := fun _ _ _ _ => False
theorem takes0 {X : Cx} : Takes X noW := fun _ _ x => by
  obtain ⟨_, _, _, _, _, _, _, _, _, _, _, _, _, _, _, _, z⟩ := x
  exact z.elim
theorem PostG.bindN {α β γ δ : Type} {g : Gd} {R : Wd → α → β → Prop} {R2 : Wd → γ → δ → Prop} {W : WX} {p : Pn} {w1 w2 : Wd} {σ σ2 : L2.St} {H2 : Hp} {r : Res α} {k : α → MH → Res γ} {Q : δ → Hp → Prop} {Q' : β → Hp → Prop} {ds : Sl} {h : MH} (s : Sm g w2 ds σ2 h H2 p) (q : PostG g R2 W w1 σ (r.nx.bind k) Q)
    (f : ∀ w3 a h3 v H3, Le w2 w3 → Sm g w3 ds σ2 h3 H3 p → R w3 a v → PostG g R2 W w1 σ (k a h3) Q → Q' v H3) : PostG g R noW w2 σ2 r Q' := by
  cases r with
  | ok a h' => exact fun w' v H' l s' r => f w' a h' v H' l (s.at_ l s') r q
  | exc x h' => exact q.elim
  | stuck => exact q.elim
def wipeD (ds : Sl) : List Nat → Sl
  | [] => ds
  | v :: vs => (wipeD ds vs).set v none
theorem SimS.wipe {g : Gd} {w : Wd} {ds : Sl} {σ : L2.St} (h : SimS g w ds σ) : ∀ vs : List Nat, SimS g w (wipeD ds vs) (L2.wipe σ vs)
  | [] => h
  | v :: vs => (SimS.wipe h vs).drop v none
theorem PnOk.wipe {g : Gd} {w : Wd} {p : Pn} {σ : L2.St} (h : PnOk g w p σ) : ∀ {vs : List Nat}, (vs.all fun i => p.no i) = true → PnOk g w p (L2.wipe σ vs)
  | [], _ => h
  | v :: vs, e => by
    have e' : p.no v = true ∧ (vs.all fun i => p.no i) = true := by simpa using e
    exact (PnOk.wipe h e'.2).set e'.1 none
theorem Sm.wipe {g : Gd} {w : Wd} {ds : Sl} {σ : L2.St} {h : MH} {H : Hp} {p : Pn} (s : Sm g w ds σ h H p) {vs : List Nat} (e : (vs.all fun i => p.no i) = true) : Sm g w (wipeD ds vs) (L2.wipe σ vs) h H p := ⟨s.s.wipe vs, s.h, s.p.wipe e⟩
theorem wipe_sub {σ : L2.St} {vs : List Nat} : ∀ us : List Nat, (∀ i ∈ us, i ∈ vs) → wipe (wipe σ us) vs = wipe σ vs
  | [], _ => rfl
  | v :: us, h => by
    show wipe ((wipe σ us).set v none) vs = _
    rw [wipe_set (h v (by simp)), wipe_sub us fun i hi => h i (by simp [hi])]
theorem wipe_idem {σ : L2.St} {vs : List Nat} : wipe (wipe σ vs) vs = wipe σ vs := wipe_sub vs fun _ h => h

def mYes : MT := fun _ h => .ok true h
section
variable {X : Cx} {g : Gd} {W : WX} {p : Pn} {c : Expr} {mt : MT}
theorem mts_nil : PTs X [] (RdT g W p mYes) := ⟨fun pins s σ H Q I ⟨w, ds, h, sm, q⟩ => pts_nil.run pins s σ H Q I (q w true H (Le.refl _) sm.h rfl)⟩
theorem mts_one (h : PT X c (RdT g W p mt)) : PTs X [c] (RdT g W p mt) := pts_one h
end
/-- the items of a comprehension -/
def lcL {ι : Type} (ds0 : Sl) (mg : MGx ι) (mt : MT) (me : ME) : List ι → MH → Res (List D)
  | [], h => .ok [] h
  | d :: l, h => match mg d ds0 h with
    | none => .stuck
    | some (ds1, h1) => (mt ds1 h1).nx.bind fun b h2 => if b then (me ds1 h2).nx.bind fun y h3 => (lcL ds0 mg mt me l h3).bind fun r h4 => .ok (y :: r) h4 else lcL ds0 mg mt me l h2
def mLc {ι : Type} (vs : List Nat) (mi : MI ι) (mg : MGx ι) (mt : MT) (me : ME) : ME := fun ds h => (mi ds h).bind fun l h1 => if l.length ≤ sizeLine then (lcL (wipeD ds vs) mg mt me l h1).bind fun r h2 => .ok (.lst r) h2 else .stuck
/-- the block of a comprehension -/
abbrev Cx.cb (X : Cx) (scope : Scope) (s : Shared) (H : Hp) (C : Addr) (cl : List (Str × Addr)) (fp : List Addr) : Cx := X.blk s H scope (compEnvC scope cl C X.env) fp
section
variable {ι : Type} {X : Cx} {g : Gd} {W : WX} {p : Pn} {R : Wd → Hp → ι → V → Prop} {tg iter elt : Expr} {ifs : List Expr} {mi : MI ι} {mg : MGx ι} {mt : MT} {me : ME} {pos : Pos} {scope : Scope} {own : List (Str × Nat)}
theorem RdE.lc (hpn : ((own.map (·.2)).all fun i => p.no i) = true) {σ : L2.St} {H : Hp} {Q : VK} (h : RdE g W p (mLc (own.map (·.2)) mi mg mt me) σ H Q) :
    tLc (RdI g R W p mi) (RdGt g p R (own.map (·.2)) mg) (RdT g noW p mt) (RdE g noW p me) (own.map (·.2)) σ H Q := by
  obtain ⟨w, ds, h, s, q⟩ := h
  generalize own.map (·.2) = vs at *
  refine RdG.mk s (PostG.bind s q fun w1 l h1 J H1 l1 s1 r1 q1 => fun D hD => ?_)
  split at q1
  · rename_i hz
    have f1 : w1.fr D = none := by
      cases e : w1.fr D with
      | none => rfl
      | some u => rw [(s1.h.fr D u e).1] at hD; cases hD
    have q0 : PostG g (Rep g) W w1 σ ((lcL (wipeD ds vs) mg mt me l h1).bind fun r h2 => .ok (.lst ([] ++ r)) h2) Q := q1
    refine ⟨fun i m H => m = l.length - i ∧ i ≤ l.length ∧ ∃ w' h' acc us, Le w1 w' ∧ w'.fr D = some (.lst us) ∧ SimH g w' h' H ∧ Reps g w' acc us ∧ acc.length ≤ i ∧ PostG g (Rep g) W w1 σ ((lcL (wipeD ds vs) mg mt me (l.drop i) h').bind fun r h2 => .ok (.lst (acc ++ r)) h2) Q,
      ⟨_, rfl, Nat.zero_le _, w1.hold D (.lst []), h1, [], [], Le.hold f1 _, upd_same, s1.h.hold hD trivial, .nil, Nat.le_refl _, q0⟩, ?_⟩
    rintro i m H ⟨rfl, hi, w', h', acc, us, lw, hf, sh, ra, hacc, q'⟩
    by_cases hlt : i < l.length
    · have hd : l[i]? = some l[i] := by simp [hlt]
      have hdr : l.drop i = l[i] :: l.drop (i + 1) := (List.getElem_cons_drop hlt).symm
      refine .inr ⟨r1.go w' h' H i lw.f sh hlt, fun H' => ∃ w' h' acc us, Le w1 w' ∧ w'.fr D = some (.lst us) ∧ SimH g w' h' H' ∧ Reps g w' acc us ∧ acc.length ≤ i + 1 ∧ PostG g (Rep g) W w1 σ ((lcL (wipeD ds vs) mg mt me (l.drop (i + 1)) h').bind fun r h2 => .ok (.lst (acc ++ r)) h2) Q,
        fun H' z => ⟨l.length - (i + 1), by omega, rfl, hlt, z⟩, fun x H' y => ?_⟩
      obtain ⟨sh', rx⟩ := r1.yld w' h' H i l[i] x H' lw.f sh hd y
      rw [hdr] at q'
      simp only [lcL] at q'
      have sm : Sm g w' (wipeD ds vs) (wipe σ vs) h' H' p := ⟨(s1.s.mono lw).wipe vs, sh', (s1.p.mono lw).wipe hpn⟩
      refine ⟨w', wipeD ds vs, h', l[i], sm, rx, ?_⟩
      cases e1 : mg l[i] (wipeD ds vs) h' with
      | none => rw [e1] at q'; exact q'.elim
      | some z =>
        obtain ⟨ds1, h1'⟩ := z
        rw [e1] at q'
        intro w2 σ2 H2 l2 s2 ew
        refine ⟨ew.trans wipe_idem, ?_⟩
        have q2 : PostG g (Rep g) W w1 σ ((mt ds1 h1').nx.bind fun b h2 => (if b then (me ds1 h2).nx.bind fun y h3 => (lcL (wipeD ds vs) mg mt me (l.drop (i + 1)) h3).bind fun r h4 => .ok (y :: r) h4 else lcL (wipeD ds vs) mg mt me (l.drop (i + 1)) h2).bind fun r h2 => .ok (.lst (acc ++ r)) h2) Q := by
          simp only at q'
          cases e2 : mt ds1 h1' with
          | ok b h2 => rw [e2] at q'; exact q'
          | exc x h2 => rw [e2] at q'; exact q'
          | stuck => rw [e2] at q'; exact q'
        refine RdG.mk s2 (PostG.bindN s2 q2 fun w3 b h3 bv H3 l3 s3 rb q3 => ?_)
        subst rb
        have lw3 : Le w1 w3 := lw.trans (l2.trans l3)
        have hf3 : w3.fr D = some (.lst us) := l3.fr _ _ (l2.fr _ _ hf)
        cases b with
        | false =>
          simp only [Bool.false_eq_true, if_false] at q3 ⊢
          exact ⟨w3, h3, acc, us, lw3, hf3, s3.h, Reps.mono (l2.trans l3) _ ra, by omega, q3⟩
        | true =>
          simp only [if_true] at q3 ⊢
          have q4 : PostG g (Rep g) W w1 σ ((me ds1 h3).nx.bind fun y h4 => (lcL (wipeD ds vs) mg mt me (l.drop (i + 1)) h4).bind fun r h5 => .ok (.lst (acc ++ y :: r)) h5) Q := by
            cases e2 : me ds1 h3 with
            | ok b h2 =>
              rw [e2] at q3
              simp only [Res.nx_ok, Res.bind_ok] at q3 ⊢
              cases e3 : lcL (wipeD ds vs) mg mt me (l.drop (i + 1)) h2 with
              | ok b h2 => rw [e3] at q3; exact q3
              | exc x h2 => rw [e3] at q3; exact q3
              | stuck => rw [e3] at q3; exact q3
            | exc x h2 => rw [e2] at q3; exact q3
            | stuck => rw [e2] at q3; exact q3
          refine RdG.mk s3 (PostG.bindN s3 q4 fun w4 y h4 yv H4 l4 s4 ry q5 => ?_)
          have lw4 : Le w1 w4 := lw3.trans l4
          have hf4 : w4.fr D = some (.lst us) := l4.fr _ _ hf3
          have ra4 : Reps g w4 acc us := Reps.mono (l2.trans (l3.trans l4)) _ ra
          have hau : acc.length = us.length := ra.length
          refine ⟨us, s4.h.held hf4, by omega, (w4.unhold w1).hold D (.lst (us ++ [yv])), h4, acc ++ [y], us ++ [yv], ⟨lw4.F, lw4.mu, fun a o e => ?_⟩, upd_same, s4.h.rehold hf4 lw4 f1 _ trivial, ?_, by simp; omega, ?_⟩
          · show upd w1.fr D _ a = some o
            rw [upd_ne (ne_of_none e f1)]; exact e
          · exact Reps.cast (w := w4) (w' := (w4.unhold w1).hold D (.lst (us ++ [yv]))) rfl rfl (ra4.append (.cons ry .nil))
          · simpa [List.append_assoc] using q5
    · have e : i = l.length := by omega
      subst e
      rw [List.drop_length] at q'
      simp only [lcL, Res.bind_ok, List.append_nil] at q'
      refine .inl ⟨r1.stop w' h' H lw.f sh, ?_⟩
      have le : Le w1 ((w'.unhold w1).add D (.lst us)) := (Le.unhold lw).trans (Le.add (w := w'.unhold w1) (sh.fr D _ hf).2.1 _)
      refine q' _ _ H le (sh.letgo hf lw f1) ?_
      simp only [Rep]
      refine ⟨D, us, rfl, upd_same, ?_⟩
      exact Reps.mono (w := w'.unhold w1) (Le.add (w := w'.unhold w1) (sh.fr D _ hf).2.1 _) _ (Reps.cast (w := w') (w' := w'.unhold w1) rfl rfl ra)
  · exact q1.elim
theorem me_lc (own : List (Str × Nat)) (hc : X.calm = true) (hN : X.N.Nodup) (hi : PI X tg iter (RdI g R W p mi)) (ok : BlkOk X.N X.env.scope scope own)
    (hg : ∀ s H C cl fp, PG (Cx.cb X scope s H C cl fp) tg (RdGt g p R (own.map (·.2)) mg)) (ht : ∀ s H C cl fp, PTs (Cx.cb X scope s H C cl fp) ifs (RdT g noW p mt))
    (he : ∀ s H C cl fp, PE (Cx.cb X scope s H C cl fp) elt (RdE g noW p me)) (hpn : ((own.map (·.2)).all fun i => p.no i) = true := by rfl) (hs : ∀ x, foldedSetIterable iter X.env x = pure x := by intro _; rfl) :
    PE X (.ListComp elt [⟨tg, iter, ifs, 0⟩] scope pos) (RdE g W p (mLc (own.map (·.2)) mi mg mt me)) :=
  PE.imp (pe_lc hc hN hi ok hg ht he hs) fun σ H Q h => RdE.lc hpn h
theorem ms_setLc (i : Nat) {y : Str} {py spos : Pos} (own : List (Str × Nat)) (hc : X.calm = true) (hN : X.N.Nodup) (hi : PI X tg iter (RdI g R W p mi)) (ok : BlkOk X.N X.env.scope scope own)
    (hg : ∀ s H C cl fp, PG (Cx.cb X scope s H C cl fp) tg (RdGt g p R (own.map (·.2)) mg)) (ht : ∀ s H C cl fp, PTs (Cx.cb X scope s H C cl fp) ifs (RdT g noW p mt))
    (he : ∀ s H C cl fp, PE (Cx.cb X scope s H C cl fp) elt (RdE g noW p me)) (hy : X.N[i]? = some y := by rfl) (hyl : X.env.scope.names.lookup y = some .local := by rfl)
    (hsw : swapsWith (.ListComp elt [⟨tg, iter, ifs, 0⟩] scope pos) (some (.Name y py)) spos.line X.env = pure true := by rfl) (hp : p.no i = true := by rfl) (hpn : ((own.map (·.2)).all fun i => p.no i) = true := by rfl) (hs : ∀ x, foldedSetIterable iter X.env x = pure x := by intro _; rfl) :
    PS X (.Assign [.Name y py] (.ListComp elt [⟨tg, iter, ifs, 0⟩] scope pos) spos) (RdS g W p (mSet i (mLc (own.map (·.2)) mi mg mt me))) := by
  refine PS.imp (ps_setLc hc hN hy hyl hsw hi ok hg ht he hs) fun En σ H ⟨w, ds, h, s, q⟩ => ?_
  refine RdE.lc hpn ⟨w, ds, h, s, PostS.lift s q fun w1 d h1 x H1 l1 s1 r1 q1 => ?_⟩
  exact q1 w1 _ H1 (Le.refl _) (s1.set hp r1)
end
end ML
set_option Elab.async false
set_option linter.all false
set_option maxRecDepth 100000
set_option maxHeartbeats 2000000
set_option autoImplicit false
/-! M: targets o[i], lists taken apart, instances made, classes asked, exceptions. -/
namespace ML
open PySem PySem.Spec PyProof.Rows L2

/-! ### targets -/
/-- a list taken apart -/
def tgLst (n : Nat) (m : MGs) : MG := fun d ds h => match lstOf d h with
  | some l => if l.length = n then m l ds h else none | none => none
/-- o[i], o a list of the store -/
def tgSub (mo mi : ME) : MG := fun v ds h => match mo ds h with
  | .ok (.ref n) h1 => (match mi ds h1 with
    | .ok (.int k) h2 => (match h2[n]? with
      | some (.lst l) => (match ixN l.length k with
        | some j => some (ds, h2.set n (.lst (l.set j v))) | none => none)
      | _ => none)
    | _ => none)
  | _ => none
section
variable {X : Cx} {g : Gd} {W : WX} {p : Pn} {pos : Pos} {o i : Expr} {es : List Expr} {mb : MGs} {mo mi : ME} {vs : List Nat}
theorem mg_lst {k : Nat} (n : Nat) (hk : X.K = g.K) (hc : X.calm = true) (h : PGs X es (RdTgs g p vs mb)) (hn : (assignEach es X.env).length = n := by rfl) (hst : (assignEach es X.env).findIdx? (·.1) = none := by rfl) : PG X (.Tuple es k pos) (RdTg g p vs (tgLst n mb)) := by
  refine PG.imp (pg_unl hc h hn hst) fun v σ H Q ⟨w, ds, h, d, s, r, q⟩ => ?_
  simp only [tgLst] at q
  cases e : lstOf d h with
  | none => rw [e] at q; exact q.elim
  | some l =>
    rw [e] at q
    obtain ⟨a, us, rfl, f, r2⟩ := lstOf_ok s.h r e
    simp only at q
    split at q
    · rename_i hl
      exact ⟨a, us, rfl, by rw [hk]; exact SqL.of f, by rw [← r2.length]; exact hl, w, ds, h, l, s, r2, q⟩
    · exact q.elim
theorem mg_sub (ho : PE X o (RdE g W p mo)) (hi : PE X i (RdE g W p mi))
    (ha : ∀ v, assign (.Subscript o i pos) X.env v = (do
      let ov ← holding [v] (eval o X.env)
      let iv ← holding [v, ov] (eval i X.env)
      standAt pos
      holding [v, ov, iv] (setItem ov iv v)
      release [v, ov, iv] []) := by intro _; rfl) : PG X (.Subscript o i pos) (RdTg g p vs (tgSub mo mi)) := by
  refine PG.imp (pg_sub ho hi set_list ha) fun v σ H Q ⟨w, ds, h, d, s, r, q⟩ => ?_
  simp only [tgSub] at q
  refine RdG.mk s ?_
  cases e1 : mo ds h with
  | exc _ _ => rw [e1] at q; exact q.elim
  | stuck => rw [e1] at q; exact q.elim
  | ok x h1 =>
    rw [e1] at q
    intro w1 xv H1 l1 sh1 rx
    have s1 := s.at_ l1 sh1
    refine RdG.mk s1 ?_
    cases x with
    | ref n =>
      simp only at q
      cases e2 : mi ds h1 with
      | exc _ _ => rw [e2] at q; exact q.elim
      | stuck => rw [e2] at q; exact q.elim
      | ok y h2 =>
        rw [e2] at q
        intro w2 yv H2 l2 sh2 ry
        cases y with
        | int k =>
          simp only at q
          split at q
          · rename_i l hl
            split at q
            · rename_i j hj
              have rx' := Rep.mono l2 _ rx
              simp only [Rep] at rx' ry
              obtain ⟨a, rfl, m⟩ := rx'
              subst ry
              obtain ⟨a', m', hF, us, ea, ru⟩ := sh2.ob n _ hl
              rw [m] at m'; cases m'
              refine ⟨a, us, k, j, rfl, rfl, ea, by rw [← ru.length]; exact hj, ?_⟩
              have le := l1.trans l2
              exact q w2 σ _ le ⟨s.s.mono le, sh2.write m hF ⟨_, ea, trivial⟩ ⟨hF, _, upd_same, Reps.set (Rep.mono le _ r) j ru⟩, s.p.mono le⟩ rfl
            · exact q.elim
          · exact q.elim
        | _ => exact q.elim
    | _ => exact q.elim
end

/-! ### instances made -/
theorem passF {X : Cx} : Passes (L2.CX X.prog X.w) X (fun _ _ _ => False) := passes_call takes0 fun _ _ _ _ z => z
structure MkM (P : Program) (w : World) (mg : Str → Option Value) (base : Heap) (g : Gd) (k : Nat) (c : Nat) (x qual : Str) (st : Stmt) (ps : List Str) (n : Nat) (m : List D → MH → Res D) : Prop where
  ex : ∃ C f fd, ClM g c C ∧ Mk g.K C f ∧ Fun g.K "__init__" qual st f fd ∧ FnOk P w g.K mg base (L2.CX P w) k f fd ps (spM g n m) ∧ mg x = some (.ref C) ∧ Binds g.K fd ps [] ∧ ps.length = n
structure AtI (mg : Str → Option Value) (g : Gd) (c : Nat) (x qual : Str) (st : Stmt) (ps : List Str) : Prop where
  ex : ∃ C f fd, ClM g c C ∧ Mk g.K C f ∧ Fun g.K "__init__" qual st f fd ∧ mg x = some (.ref C) ∧ Binds g.K fd ps []
section
variable {P : Program} {w : World} {mg : Str → Option Value} {base : Heap} {g : Gd} {x qual : Str} {st : Stmt} {N ps : List Str} {k n c : Nat} {body : MS}
theorem MkM.mk' (T : AtI mg g c x qual st ps) (S : FnScope N ps (defScope st)) (hn : ps.length = n)
    (hbody : ∀ (f : Addr) (cdv : Value) (A : Around) (outer : List Env) (s : Shared) (H : Hp) (E : XK), codeVal g.K f = cdv → Room k (bX P w g mg base N qual (defScope st) f cdv A outer s H E).A → Takes (bX P w g mg base N qual (defScope st) f cdv A outer s H E) (bW E) →
      PassesOwn (model P w) (bX P w g mg base N qual (defScope st) f cdv A outer s H E).A (bX P w g mg base N qual (defScope st) f cdv A outer s H E).env (bX P w g mg base N qual (defScope st) f cdv A outer s H E).xe →
      PSs (bX P w g mg base N qual (defScope st) f cdv A outer s H E) (defBody st) (RdS g (bW E) pn0 body)) : MkM P w mg base g (k + 1) c x qual st ps n (mFn n N.length body) := by
  obtain ⟨C, f, fd, cm, hm, F, hg, hb⟩ := T
  exact ⟨C, f, fd, cm, hm, F, fnok_mk F S hn (fun cdv A outer s H E hcv hr tk hp => hbody f cdv A outer s H E hcv hr tk hp), hg, hb, hn⟩
theorem MkM.mono {j : Nat} {m : List D → MH → Res D} (F : MkM P w mg base g k c x qual st ps n m) (h : k ≤ j) : MkM P w mg base g j c x qual st ps n m := by
  obtain ⟨C, f, fd, a, b, d, F, r⟩ := F
  exact ⟨C, f, fd, a, b, d, F.mono h, r⟩
end
def mMake (c n : Nat) (m : List D → MH → Res D) (ma : MA) : ME := fun ds h => (ma ds h).bind fun l h1 => if l.length + 1 = n then (m (.ref h1.length :: l) (h1 ++ [.ins c []])).nx.bind fun d h2 => (match d with
  | .non => .ok (.ref h1.length) h2 | _ => .stuck) else .stuck
section
variable {X : Cx} {g : Gd} {W : WX} {p : Pn} {pos pp : Pos} {e : Expr} {es : List Expr} {ma : MA} {k n c : Nat} {x qual : Str} {st : Stmt} {ps : List Str} {m : List D → MH → Res D}
theorem made {C f : Addr} {fd : FuncData} {w : Wd} {σ : L2.St} {l : List D} {h : MH} {H : Hp} {vs : List V} {Q : VK} (cm : ClM g c C) (hn : ps.length = n) (s : SimH g w h H) (r : Reps g w l vs)
    (q : PostG g (Rep g) W w σ (if l.length + 1 = n then (m (.ref h.length :: l) (h ++ [.ins c []])).nx.bind fun d h2 => (match d with | .non => .ok (.ref h.length) h2 | _ => .stuck) else .stuck) Q) :
    ∀ x dx, H x = none → H dx = none → dx ≠ x → spM g n m (.ref x :: (vs ++ [])) (upd (upd H dx (.own x)) x (.ins C dx [])) (fun v H2 => v = .non ∧ Q (.ref x) H2) (fun _ _ _ => False) := by
  intro x dx hx hdx hne
  split at q
  · rename_i hl
    have e1 : ∀ a u, H a = some u → upd (upd H dx (.own x)) x (.ins C dx []) a = some u := fun a u e => by
      rw [upd_ne (ne_of_none e hx), upd_ne (ne_of_none e hdx)]; exact e
    have s2 : SimH g (w.new x) (h ++ [.ins c []]) (upd (upd H dx (.own x)) x (.ins C dx [])) :=
      s.new hx e1 ⟨s.free hx, C, dx, [], cm.at_, upd_same, rfl, .nil⟩
    have rx : Rep g (w.new x) (.ref h.length) (.ref x) := by
      simp only [Rep]
      refine ⟨x, rfl, ?_⟩
      show (w.mu ++ [x])[h.length]? = some x
      rw [← s.len, List.getElem?_append_right (Nat.le_refl _)]; simp
    refine ⟨by rw [List.append_nil]; simp only [List.length_cons]; rw [← r.length]; exact hl, w.new x, .ref h.length :: l, h ++ [.ins c []], s2, by rw [List.append_nil]; exact .cons rx (Reps.mono (Le.new w x) _ r), ?_⟩
    cases e2 : m (.ref h.length :: l) (h ++ [.ins c []]) with
    | exc _ _ => rw [e2] at q; exact q.elim
    | stuck => rw [e2] at q; exact q.elim
    | ok d h2 =>
      rw [e2] at q
      simp only [Res.nx_ok, Res.bind_ok] at q
      intro w' v H' l' s' r'
      cases d with
      | non =>
        simp only [Rep] at r'
        exact ⟨r', q w' _ H' ((Le.new w x).trans l') s' (Rep.mono l' _ rx)⟩
      | _ => exact q.elim
  · exact q.elim
theorem me_make (hk : X.K = g.K) (M : MkM X.prog X.w X.mg X.base g k c x qual st ps n m) (hr : Room (k + 1) X.A) (ha : PA X (e :: es) (RdA g W p ma)) (hg : Gl X x := by rfl) (hdb : (x == ("__debug__" : Str)) = false := by decide)
    (he : starEach (e :: es) X.env = (false, eval e X.env) :: starEach es X.env := by rfl) (hpl : (backTo pos (starEach es X.env)).any (·.1) = false := by rfl) : PE X (.Call (.Name x pp) (e :: es) [] pos) (RdE g W p (mMake c n m ma)) := by
  obtain ⟨C, f, fd, cm, M, _, F, hm, hb, hn⟩ := M
  rw [← hk] at F M hb
  refine PE.imp (pe_make M F hr hg hm hb .nil passF ha hdb he hpl) fun σ H Q ⟨w, ds, h, s, q⟩ => ?_
  exact RdG.mk s (PostG.bind s q fun w1 l h1 vs H1 l1 s1 r1 q1 => made (f := f) (fd := fd) (ps := ps) cm hn s1.h r1 q1)
theorem me_make0 (hk : X.K = g.K) (M : MkM X.prog X.w X.mg X.base g k c x qual st ps n m) (hr : Room (k + 1) X.A) (hg : Gl X x := by rfl) (hdb : (x == ("__debug__" : Str)) = false := by decide) : PE X (.Call (.Name x pp) [] [] pos) (RdE g W p (mMake c n m mNil)) := by
  obtain ⟨C, f, fd, cm, M, _, F, hm, hb, hn⟩ := M
  rw [← hk] at F M hb
  refine PE.imp (pe_make0 M F hr hg hm hb .nil passF hdb) fun σ H Q ⟨w, ds, h, s, q⟩ => ?_
  exact made (f := f) (fd := fd) (ps := ps) (l := []) cm hn s.h .nil q
end

/-! ### isinstance of a class of the program -/
structure OwnTy (K : PySem.W.Frag) (C : Addr) : Prop where
  cl : Cls K C
  ha : PySem.W.findIn K (.ref C) "__class__" = some (some (.builtin "object.__class__"))
  hn : PySem.W.specialIn K (.builtin "object.__class__") "__get__" = some (some (.builtin "getset_descriptor.__get__"))
  htk : PySem.W.takesIn K (.builtin "object.__class__") = some true
  hm : PySem.W.mroIn K C (.type "object") = some true
/-- the class named x: which classes are under it -/
structure IsM (mg : Str → Option Value) (g : Gd) (x : Str) (t : Nat → Option Bool) : Prop where
  ex : ∃ C, mg x = some (.ref C) ∧ (∀ T ∈ TyNames, PySem.W.kitOne g.K (.type T) (.ref C) = some false) ∧ ∀ c b, t c = some b → ∃ C', g.cl[c]? = some C' ∧ OwnTy g.K C' ∧ PySem.W.kitOne g.K (.ref C') (.ref C) = some b
def isOwn (t : Nat → Option Bool) (d : D) (h : MH) : Option Bool := match tyD d h with
  | some _ => some false
  | none => match d with
    | .ref n => (match h[n]? with | some (.ins c _) => t c | _ => none)
    | _ => none
def mIsOwn (t : Nat → Option Bool) (m : ME) : ME := fun ds h => (m ds h).bind fun d h1 => match isOwn t d h1 with
  | some b => .ok (.bl b) h1 | none => .stuck
section
variable {X : Cx} {g : Gd} {W : WX} {p : Pn} {pos pp cp : Pos} {e : Expr} {m : ME} {x : Str} {t : Nat → Option Bool}
theorem me_isOwn (hk : X.K = g.K) (F : IsM X.mg g x t) (he : PE X e (RdE g W p m)) (hgi : Gl X "isinstance") (hmi : X.mg "isinstance" = none) (hg : Gl X x := by rfl) (hdb : (x == ("__debug__" : Str)) = false := by decide)
    (hst : starEach [e, .Name x cp] X.env = (false, eval e X.env) :: starEach [.Name x cp] X.env := by rfl) (hst2 : starEach [.Name x cp] X.env = (false, eval (.Name x cp) X.env) :: starEach [] X.env := by rfl) (hpl : (backTo pos (starEach [.Name x cp] X.env)).any (·.1) = false := by rfl) :
    PE X (.Call (.Name "isinstance" pp) [e, .Name x cp] [] pos) (RdE g W p (mIsOwn t m)) := by
  obtain ⟨C, hm, hT, hC⟩ := F
  refine PE.imp (pe_callB call_isi hgi hmi PyProof.Rows.boot_isinstance (pa_cons he (pa_cons (pe_glob (v := .ref C) hg hm rfl hdb) pa_nil hst2) hst) (by decide) (by decide) hst hpl) fun σ H Q ⟨w, ds, h, s, q⟩ => ?_
  refine RdG.mk s (PostG.bind s q fun w1 d h1 v H1 l1 s1 r1 q1 => ?_)
  cases e : isOwn t d h1 with
  | none => rw [e] at q1; exact q1.elim
  | some b =>
    rw [e] at q1
    have fin := q1 w1 (.bl b) H1 (Le.refl _) s1.h (by simp [Rep])
    unfold isOwn at e
    cases e2 : tyD d h1 with
    | some T =>
      rw [e2] at e
      cases e
      have tx := tyD_ok s1.h r1 e2
      rw [← hk] at tx
      exact ⟨v, .ref C, _, _, _, rfl, .own C, tx, by rw [hk]; exact hT T (tyD_mem e2), fin⟩
    | none =>
      rw [e2] at e
      cases d with
      | ref n =>
        simp only at e
        split at e
        · rename_i c fs hn
          obtain ⟨C', hc', O, hk1⟩ := hC c b e
          obtain ⟨a', m', hF, C2, dx, fvs, h3, h4, rf⟩ := s1.h.ob n _ hn
          rw [hc'] at h3; cases h3
          simp only [Rep] at r1
          obtain ⟨a, rfl, m1⟩ := r1
          rw [m1] at m'; cases m'
          refine ⟨_, .ref C, _, _, _, rfl, .own C, .base (.ins h4 ?_ ?_ ?_ ?_ ?_), by rw [hk]; exact hk1, fin⟩
          · rw [hk]; exact O.cl
          · rw [hk]; exact O.ha
          · rw [hk]; exact O.hn
          · rw [hk]; exact O.htk
          · rw [hk]; exact O.hm
        · cases e
      | _ => cases e
end
end ML
set_option Elab.async false
set_option linter.all false
set_option maxRecDepth 100000
set_option maxHeartbeats 2000000
set_option autoImplicit false
/-! M: raise, try. -/
namespace ML
open PySem PySem.Spec PyProof.Rows L2

/-! ### raise C(e), C storing its argument as f -/
def spX (K : PySem.W.Frag) (C : Addr) (f : Str) : Sp := fun vs H Q _ => ∃ a v, vs = [.ref a, v] ∧ H a = some (exo a C none) ∧ ∀ dx, H dx = none → dx ≠ a → Q .non (upd (upd H dx (exd dx [(f, v)])) a (exo a C (some dx)))
structure ExM (P : Program) (w : World) (mg : Str → Option Value) (base : Heap) (g : Gd) (c : Nat) (x f : Str) : Prop where
  ex : ∃ C fI fd ps, g.cl[c]? = some C ∧ OexC g.K C ∧ PySem.W.findIn g.K (.ref C) "__init__" = some (some (.ref fI)) ∧ PySem.W.typeIn g.K (.ref fI) = some (.type "function") ∧
    FnOk P w g.K mg base (L2.CX P w) 1 fI fd ps (spX g.K C f) ∧ Binds g.K fd ps [] ∧ mg x = some (.ref C)
/-- what the top says of it -/
structure AtX (mg : Str → Option Value) (g : Gd) (c : Nat) (x f qual : Str) (st : Stmt) (ps : List Str) : Prop where
  ex : ∃ C fI fd, g.cl[c]? = some C ∧ OexC g.K C ∧ PySem.W.findIn g.K (.ref C) "__init__" = some (some (.ref fI)) ∧ PySem.W.typeIn g.K (.ref fI) = some (.type "function") ∧ PySem.W.findIn g.K (.ref C) f = some none ∧
    Fun g.K "__init__" qual st fI fd ∧ Binds g.K fd ps [] ∧ mg x = some (.ref C)
theorem ExM.mk' {P : Program} {w : World} {mg : Str → Option Value} {base : Heap} {g : Gd} {c : Nat} {x f qual : Str} {st : Stmt} {ps : List Str} {p1 p2 p3 p4 : Pos} {s1 s2 : Str} (T : AtX mg g c x f qual st ps) (S : FnScope [s1, s2] ps (defScope st)) (hl : ps.length = 2)
    (hb : defBody st = [.Assign [.Attribute (.Name s1 p1) f p2] (.Name s2 p3) p4]) (h1 : (defScope st).names.lookup s1 = some .local := by rfl) (h2 : (defScope st).names.lookup s2 = some .local := by rfl) (d1 : (s1 == ("__debug__" : Str)) = false := by decide) (d2 : (s2 == ("__debug__" : Str)) = false := by decide)
    (c1 : (s1 == ("__classdict__" : Str)) = false := by decide) (c2 : (s2 == ("__classdict__" : Str)) = false := by decide)
    (hs : ∀ (A : Around) (outer : List Env) (s : Shared) (H : Hp) (E : XK) (fA : Addr) (cdv : Value), swapsWith (.Name s2 p3) (some (.Attribute (.Name s1 p1) f p2)) p4.line (bX P w g mg base [s1, s2] qual (defScope st) fA cdv A outer s H E).env = pure false := by intros; rfl) : ExM P w mg base g c x f := by
  obtain ⟨C, fI, fd, hc, T, hi, ht, hf, F, hbd, hm⟩ := T
  refine ⟨C, fI, fd, ps, hc, T, hi, ht, F.okX S (fun vs H Q E h => ?_) (fun cdv A outer s H vs Q E hr h => ?_), hbd, hm⟩
  · obtain ⟨a, v, rfl, _⟩ := h
    rw [hl]; rfl
  · obtain ⟨a, v, rfl, ha, k⟩ := h
    refine ⟨tOst g.K f (tVar 0) (tVar 1), ?_, ?_⟩
    · rw [hb]
      exact pss_one (ps_ost (pe_var (i := 0) rfl (.inl h1) d1 c1) (pe_var (i := 1) rfl (.inl h2) d2 c2) (hs A outer s H E fI cdv))
    · refine ⟨v, rfl, .ref a, rfl, a, C, rfl, T, hf, .inl ⟨ha, fun dx hd hne => ?_⟩⟩
      exact k dx hd hne
def mRaise (c : Nat) (f : Str) (m : ME) : MS := fun ds h => lift (m ds h) ds fun d h1 => .exc ⟨c, [(f, d)]⟩ ds h1
section
variable {X : Cx} {g : Gd} {W : WX} {p : Pn} {pos pp pc : Pos} {e : Expr} {m : ME} {c : Nat} {x f : Str}
theorem ms_raise (hk : X.K = g.K) (F : ExM X.prog X.w X.mg X.base g c x f) (hc : X.calm = true) (tk : Takes X W) (hr : Room 2 X.A) (he : PE X e (RdE g W p m)) (hg : Gl X x := by rfl) (hdb : (x == ("__debug__" : Str)) = false := by decide)
    (hst : starEach [e] X.env = (false, eval e X.env) :: starEach [] X.env := by rfl) (hpl : (backTo pc (starEach [] X.env)).any (·.1) = false := by rfl) : PS X (.Raise (some (.Call (.Name x pp) [e] [] pc)) none pos) (RdS g W p (mRaise c f m)) := by
  obtain ⟨C, fI, fd, ps, hcl, T, hi, ht, F, hb, hm⟩ := F
  rw [← hk] at T hi ht F hb
  refine PS.imp (ps_raise hc tk (pmk_oex T hi ht F hr hb .nil passF hg hm (pa_cons he pa_nil hst) hdb hst hpl)) fun D σ H ⟨w, ds, h, s, q⟩ => ?_
  refine RdG.mk s (PostS.lift s q fun w1 d h1 v H1 l1 s1 r1 q1 => ?_)
  refine ⟨by simp, fun a ha => ⟨a, v, rfl, upd_same, fun dx hd hne => ⟨rfl, dx, [(f, v)], upd_same, ?_, ?_, ?_⟩⟩⟩
  · rw [upd_ne hne]; exact upd_same
  · rw [upd_ne hne] at hd; exact hd
  · have hd1 : H1 dx = none := by rw [upd_ne hne] at hd; exact hd
    have e1 : upd (del (upd (upd (upd H1 a (exo a C none)) dx (exd dx [(f, v)])) a (exo a C (some dx))) a) dx (.xd [(f, v)]) = upd H1 dx (.xd [(f, v)]) := by
      funext b
      by_cases hb1 : b = dx
      · subst hb1; rw [upd_same, upd_same]
      · rw [upd_ne hb1, upd_ne hb1]
        by_cases hb2 : b = a
        · subst hb2; rw [del_same]; exact ha.symm
        · rw [del_ne hb2, upd_ne hb2, upd_ne hb1, upd_ne hb2]
    rw [e1]
    have l2 : Le w1 (w1.add dx (.xd [(f, v)])) := Le.add (s1.h.free hd1) _
    refine q1 (w1.add dx (.xd [(f, v)])) σ (.ref C) (some dx) _ l2 ⟨s1.s.mono l2, s1.h.add _ hd1, s1.p.mono l2⟩ ⟨C, dx, [(f, v)], hcl, rfl, rfl, upd_same, rfl, ?_⟩
    exact .cons (Rep.mono l2 _ r1) .nil
end

/-! ### try: .. except C as e: .. -/
/-- the handled exception at a in slot i, its dict at d -/
def Pn.exc (p : Pn) (i : Nat) (a d : Addr) (fs : List (Str × D)) : Pn := ⟨(i, .ref a) :: p.sl, some (d, fs), p.lo⟩
def mEndS (i : Nat) (r : SR) : SR := match r with
  | .next ds h => .next (ds.set i none) h
  | .brk ds h => .brk (ds.set i none) h
  | .cont ds h => .cont (ds.set i none) h
  | .ret d h => .ret d h
  | _ => .stuck
/-- tc: which classes are taken -/
def mTry (i : Nat) (tc : List (Nat × Bool)) (b : MS) (su : Exn → MS) : MS := fun ds h => match b ds h with
  | .exc x ds1 h1 => (match tc.lookup x.c with
    | some true => if i < ds1.length then mEndS i (su x (ds1.set i none) h1) else .stuck
    | some false => .exc x ds1 h1
    | none => .stuck)
  | r => r
structure TryM (mg : Str → Option Value) (g : Gd) (x : Str) (tc : List (Nat × Bool)) : Prop where
  ex : ∃ c, mg x = some (.ref c) ∧ ∀ k b, tc.lookup k = some b → ∃ C, g.cl[k]? = some C ∧ PySem.W.exmOne g.K (.ref C) (.ref c) = some b
/-- the suite's rules hold of any such exception -/
structure ExcAt (g : Gd) (x : Exn) (cls : Value) (d : Option Addr) (C dd : Addr) : Prop where
  at_ : g.cl[x.c]? = some C
  cls : cls = .ref C
  d : d = some dd
section
variable {X : Cx} {g : Gd} {W : WX} {p : Pn} {pos pos' np : Pos} {x n : Str} {i : Nat} {body suite : List Stmt} {b₀ : Stmt} {b : MS} {su : Exn → MS} {tc : List (Nat × Bool)}
theorem ms_try_as (hk : X.K = g.K) (F : TryM X.mg g x tc) (hs : X.stack = X.env :: X.outer) (hf : X.env.frame = some X.env.locals) (hN : X.N.Nodup) (tk : Takes X W)
    (hb : ∀ (W : WX) (pn : List (Addr × Obj)) (xe : Value → Shared → Prop), Takes (X.tr pn xe) W → PassesOwn (model X.prog X.w) X.A X.env xe → PSs (X.tr pn xe) body (RdS g W p b))
    (hsu : ∀ (a : Addr) (oe : Obj) (pn : List (Addr × Obj)) (ex : Exn) (C dd : Addr), tc.lookup ex.c = some true → g.cl[ex.c]? = some C → Zc (.ref C) (some dd) oe → (∃ vs, oe.data = .fields vs) → PSs (X.suite a ((a, oe) :: pn)) (b₀ :: suite) (RdS g noW (p.exc i a dd ex.fs) (su ex)))
    (hg : Gl X x := by rfl) (hi : X.N[i]? = some n := by rfl) (hln : X.env.kindOf n = some .local := by rfl) (hp : p.no i = true := by rfl) (hxi : p.xi = none := by rfl) (hdb : (x == ("__debug__" : Str)) = false := by decide) :
    PS X (.Try body [.ExceptHandler (some (.Name x np)) (some n) (b₀ :: suite) pos'] [] [] pos) (RdS g W p (mTry i tc b su)) := by
  obtain ⟨c, hm, hc⟩ := F
  refine PS.imp (ps_try_as (c := .ref c) (i := i) (Wout := W) (tb := fun W => RdS g W p b) (ts := fun a cls d D σ H => ∃ (ex : Exn) (C dd : Addr), tc.lookup ex.c = some true ∧ g.cl[ex.c]? = some C ∧ cls = .ref C ∧ d = some dd ∧ RdS g noW (p.exc i a dd ex.fs) (su ex) D σ H)
    hs hf hN hi hln ⟨hg, hdb, .inl hm⟩ tk hb fun a oe cls d pn hz hd => ⟨fun pins s σ H D I h => ?_⟩) fun D σ H ⟨w, ds, h, s, q⟩ => ?_
  · obtain ⟨ex, C, dd, h1, h2, rfl, rfl, h3⟩ := h
    exact (hsu a oe pn ex C dd h1 h2 hz hd).run pins s σ H D I h3
  · refine ⟨w, ds, h, s, ?_⟩
    unfold mTry at q
    cases e : b ds h with
    | next ds1 h1 => rw [e] at q; exact q
    | ret d h1 => rw [e] at q; exact q
    | brk ds1 h1 => rw [e] at q; exact q
    | cont ds1 h1 => rw [e] at q; exact q
    | stuck => rw [e] at q; exact q
    | exc ex ds1 h1 =>
      rw [e] at q
      simp only at q
      intro w1 σ1 cls dd H1 l1 s1 rx
      obtain ⟨C, d, fvs, h2, rfl, rfl, h3, h4⟩ := id rx
      cases e2 : tc.lookup ex.c with
      | none => rw [e2] at q; exact q.elim
      | some t =>
        rw [e2] at q
        obtain ⟨C', h5, h6⟩ := hc _ _ e2
        rw [h2] at h5; cases h5
        refine ⟨t, by rw [hk]; exact h6, fun ht a ha => ?_, fun ht => ?_⟩
        · subst ht
          simp only at q
          by_cases hil : i < ds1.length
          rotate_left
          · rw [if_neg hil] at q; exact q.elim
          rw [if_pos hil] at q
          refine ⟨ex, C, d, e2, h2, rfl, rfl, w1, ds1.set i none, h1, ⟨s1.s.drop i _, s1.h, ⟨fun z hz => ?_, fun d' fs' hd' => ?_, s1.p.lo⟩⟩, ?_⟩
          · rcases List.mem_cons.mp hz with rfl | hz
            · have hlt : i < σ1.length := by rw [← s1.s.1]; exact hil
              show (σ1.set i (some (.ref a)))[i]? = _
              rw [List.getElem?_set_self hlt]
            · exact (s1.p.set hp _).sl z hz
          · cases hd'
            exact ⟨fvs, h3, h4⟩
          · have back : ∀ {w2 : Wd} {ds2 : Sl} {σ2 : L2.St} {h2 : MH} {H2 : Hp}, Sm g w2 ds2 σ2 h2 H2 (p.exc i a d ex.fs) → Sm g w2 (ds2.set i none) (σ2.set i none) h2 H2 p := fun {w2 ds2 σ2 h2 H2} s2 =>
              ⟨s2.s.drop i none, s2.h, PnOk.set ⟨fun z hz => s2.p.sl z (List.mem_cons_of_mem _ hz), fun d' fs' hd' => (by rw [hxi] at hd'; cases hd'), s2.p.lo⟩ hp none⟩
            cases e4 : su ex (ds1.set i none) h1 with
            | next ds2 h2 => rw [e4] at q; exact fun w2 σ2 H2 l2 s2 => q w2 _ H2 (l1.trans l2) (back s2)
            | brk ds2 h2 => rw [e4] at q; exact fun w2 σ2 H2 l2 s2 => q w2 _ H2 (l1.trans l2) (back s2)
            | cont ds2 h2 => rw [e4] at q; exact fun w2 σ2 H2 l2 s2 => q w2 _ H2 (l1.trans l2) (back s2)
            | ret d2 h2 => rw [e4] at q; exact fun w2 v H2 l2 s2 r2 => q w2 v H2 (l1.trans l2) s2 r2
            | exc _ _ _ => rw [e4] at q; exact q.elim
            | stuck => rw [e4] at q; exact q.elim
        · subst ht
          exact q w1 σ1 _ _ H1 l1 s1 rx
end
/-! ### e.f, the handled exception's -/
structure XfM (g : Gd) (c : Nat) (f : Str) : Prop where
  ex : ∃ C, g.cl[c]? = some C ∧ XfC g.K C ∧ PySem.W.findIn g.K (.ref C) f = some none
def mXF (f : Str) (fs : List (Str × D)) : ME := fun _ h => onSome (fs.lookup f) fun d => .ok d h
section
variable {X : Cx} {g : Gd} {W : WX} {p : Pn} {pos np : Pos} {f n : Str} {a C dd : Addr} {oe : Obj} {pn : List (Addr × Obj)} {x : Exn}
theorem me_xfld (hk : X.K = g.K) (i : Nat) (F : XfM g x.c f) (hC : g.cl[x.c]? = some C) (hz : Zc (.ref C) (some dd) oe) (hf : ∃ vs, oe.data = .fields vs) (hN : X.N[i]? = some n := by rfl)
    (hv : Vis X.env.scope n := by first | exact Or.inl rfl | exact Or.inr (Or.inl rfl) | exact Or.inr (Or.inr rfl)) (hd : (n == ("__debug__" : Str)) = false := by decide) (hcd : (n == ("__classdict__" : Str)) = false := by decide)
    (hb : attributeBase (.Name n np) f X.env (eval (.Name n np) X.env) = eval (.Name n np) X.env := by rfl) : PE (X.suite a ((a, oe) :: pn)) (.Attribute (.Name n np) f pos) (RdE g W (p.exc i a dd x.fs) (mXF f x.fs)) := by
  obtain ⟨C', h1, T, hno⟩ := F
  rw [hC] at h1; cases h1
  rw [← hk] at T hno
  refine PE.imp (pe_xf T hno hz hf (pe_var (X := X.suite a ((a, oe) :: pn)) (i := i) hN hv hd hcd) hb) fun σ H Q ⟨w, ds, h, s, q⟩ => ?_
  unfold mXF at q
  cases e : x.fs.lookup f with
  | none => rw [e] at q; exact q.elim
  | some d =>
    rw [e] at q
    obtain ⟨fvs, h2, h3⟩ := s.p.xi dd x.fs rfl
    obtain ⟨v, h4, h5⟩ := h3.look e
    exact ⟨.ref a, s.p.sl (i, .ref a) (by simp [Pn.exc]), rfl, rfl, dd, fvs, v, rfl, s.h.sub _ _ h2, h4, q w v H (Le.refl w) s.h h5⟩
end
end ML
set_option Elab.async false
set_option linter.all false
set_option maxRecDepth 100000
set_option maxHeartbeats 2000000
set_option autoImplicit false
/-! M: a def called within an except suite. -/
namespace ML
open PySem PySem.Spec PyProof.Rows L2

/-- what a def promises wherever it is called from -/
structure FnN (P : Program) (w : World) (K : PySem.W.Frag) (mg : Str → Option Value) (base : Heap) (k : Nat) (f : Addr) (fd : FuncData) (ps : List Str) (sp : Sp) : Prop where
  len : ∀ vs H Q E, sp vs H Q E → vs.length = ps.length
  run : ∀ (A : Around) (outer : List Env) (s : Shared) (H : Hp) (args : Args) (us : List Value) (vs : List V) (Q : VK) (E : XK), L2H.RoomH k A → Env0 P w K mg base A outer s H → BindsTo s fd args (ps.zip us) → Vals vs us → sp vs H Q E →
    codeAny (model P w) A (.call (.ref f) args) (CR (L2.CX P w) outer P w H s Q E) s
/-- the context of its body -/
abbrev hX (P : Program) (w : World) (g : Gd) (mg : Str → Option Value) (base : Heap) (N : List Str) (qual : Str) (sc : Scope) (f : Addr) (cdv : Value) (A : Around) (outer : List Env) (s : Shared) (H : Hp) (E : XK) : Cx := { bX P w g mg base N qual sc f cdv A outer s H E with calm := false }
section
variable {P : Program} {w : World} {K : PySem.W.Frag} {mg : Str → Option Value} {base : Heap} {g : Gd}
theorem startN {N ps : List Str} {qual : Str} {sc : Scope} {f : Addr} {cd : Value} {A : Around} {outer : List Env} {s s1 : Shared} {H : Hp} {E : XK} {us : List Value} {vs : List V}
    (S : FnScope N ps sc) (e0 : Env0 P w g.K mg base A outer s H) (hl : vs.length = ps.length) (r : Vals vs us)
    (x : InCallC s s.heap.objs.size (bindL (envOfC qual sc s.heap.objs.size f cd).kindOf (ps.zip us) fun _ => none) (cellsFrom (s.heap.objs.size + 1) sc.names []) (bindC (envOfC qual sc s.heap.objs.size f cd).kindOf (ps.zip us) fun _ => none) s1) :
    Inv (hX P w g mg base N qual sc f cd A outer s H E) [] (L2.start N vs) H s1 := by
  obtain ⟨h1, tk, rfl, kept⟩ := x.done
  have few : ps.length ≤ N.length := by
    rw [← S.pre, List.length_take]; exact Nat.min_le_right _ _
  have noEx : ∀ b : Addr, b ∉ (hX P w g mg base N qual sc f cd A outer s H E).ex := fun b z => by cases z
  constructor
  case ok =>
    constructor
    case mod => exact e0.mod
    case kind => exact S.kind
    case glob => rfl
    case blt => rfl
    case above => exact Nat.le_refl _
    case inj => exact fun y z c a b => name_of_addr x.apart (PySem.mem_of_lookup a) (PySem.mem_of_lookup b)
    case has =>
      intro y hy
      have hy' : sc.names.lookup y = some .cell ∨ sc.names.lookup y = some .free := hy
      rcases hy' with z | z
      · exact cell_has z
      · exact absurd rfl (S.nofree _ (PySem.mem_of_lookup z))
    case cab => exact fun y c _ a => Nat.le_of_lt (x.above y c (PySem.mem_of_lookup a))
    case hd => exact fun z => by cases z
    case frames => exact Around.frames_deeper e0.frames
    case stk => exact .inr ⟨rfl, rfl⟩
    case exf => exact fun b z => absurd z (noEx b)
    case bs => exact e0.bs
    case bsz => exact e0.bsz
    case noex => exact fun b _ _ => noEx b
    case exfs => exact fun b z => absurd z (noEx b)
    case funs => exact e0.funs
    case frf => exact e0.frf
  case os => rfl
  case bare => exact e0.bare
  case base => exact Un.kept kept
  case loc =>
    refine ⟨_, x.toInCall.ns, fun i y v a b vis => ?_⟩
    have hi : i < vs.length := by
      unfold L2.start at b
      by_cases z : i < vs.length
      · exact z
      · rw [List.getElem?_append_right (by simpa using z), List.getElem?_replicate] at b
        split at b <;> cases b
    have hv : vs[i]? = some v := by
      unfold L2.start at b
      rw [List.getElem?_append_left (by simpa using hi), List.getElem?_map] at b
      cases e : vs[i]? with
      | none => rw [e] at b; cases b
      | some q => rw [e] at b; cases b; rfl
    obtain ⟨u, hu, rv⟩ := r.get hv
    have hp : ps[i]? = some y := by
      rw [← S.pre, List.getElem?_take_of_lt (by omega)]; exact a
    have nd : ps.Nodup := by rw [← S.pre]; exact S.nd.sublist (List.take_sublist _ _)
    refine ⟨u, rv, ?_⟩
    rcases S.par y (List.mem_of_getElem? hp) with z | z
    · exact .inl ⟨z, bindL_get nd hp hu z⟩
    · obtain ⟨c, e⟩ := cell_has (n := s.heap.objs.size + 1) z
      refine .inr ⟨.inl z, c, e, ?_⟩
      have q := x.cell y c e
      rw [bindC_get nd hp hu (by show sc.names.lookup y ≠ _; rw [z]; decide)] at q
      exact q
  case cell => exact fun y c a => ⟨_, x.cell y c a⟩
  case free => exact e0.hok.fresh (Nat.le_refl _)
  case freeC => exact fun y c a => e0.hok.fresh (Nat.le_of_lt (x.above y c (PySem.mem_of_lookup a)))
  case pin => exact fun q hq => by cases hq
  case hok => exact e0.hok.kept kept
  case len =>
    unfold L2.start
    show _ = N.length
    rw [List.length_append, List.length_map, List.length_replicate]
    omega
theorem fnN_mk {x qual : Str} {st : Stmt} {f : Addr} {fd : FuncData} {N ps : List Str} {k n : Nat} {body : MS} (F : Fun g.K x qual st f fd) (S : FnScope N ps (defScope st)) (hn : ps.length = n)
    (hbody : ∀ (cdv : Value) (A : Around) (outer : List Env) (s : Shared) (H : Hp) (E : XK), L2H.RoomH k (A.deeper (envOfC qual (defScope st) s.heap.objs.size f cdv)) → Takes (hX P w g mg base N qual (defScope st) f cdv A outer s H E) (bW E) →
      PSs (hX P w g mg base N qual (defScope st) f cdv A outer s H E) (defBody st) (RdS g (bW E) pn0 body)) : FnN P w g.K mg base (k + 1) f fd ps (spM g n (mFn n N.length body)) := by
  obtain ⟨oc, od, kV, doc, pm, an, cdv, ct, osl, rfl, lk, hcd⟩ := F.ex
  refine ⟨fun vs H Q E h => by rw [hn]; exact h.1, fun A outer s H args us vs Q E hr e0 hb r hsp => ?_⟩
  have hl : vs.length = ps.length := by rw [hn]; exact hsp.1
  have KX : g.K.In s.heap := e0.mod.kin.keeps fun b o e => (e0.bs b o e).1
  have lim : s.heap.NoLimit := e0.mod.nolimit.keeps fun b o e => (e0.bs b o e).1
  have kinds : ∀ y ∈ ps.zip us, (defScope st).names.lookup y.1 = some .local ∨ ((defScope st).names.lookup y.1 = some .cell ∧ ((cellsFrom (s.heap.objs.size + 1) (defScope st).names []).lookup y.1).isSome = true) := by
    rintro ⟨y, v⟩ hy
    rcases S.par y (List.of_mem_zip hy).1 with z | z
    · exact .inl z
    · exact .inr ⟨z, PySem.W.cellsFrom_some _ _ _ (.inl z)⟩
  refine codeAny_call_function hr.depth (KX _ _ lk) rfl S.co S.gen rfl (PySem.W.codeRec_of KX hcd) (hb _ _ _ _ ?_)
  refine wpAny_newFunctionEnv_cells S.kind kinds fun env he s1 x => ?_
  subst he
  refine ⟨lim.keeps x.toInCall.keep, codeAny_func ?_⟩
  have I : Inv (hX P w g mg base N qual (defScope st) f cdv A outer s H E) [] (L2.start N vs) H s1 := startN S e0 hl r x
  refine wpAny_mono ((hbody cdv A outer s H E (hr.deeper _) (takes_of rfl rfl rfl rfl)).run [] s1 (L2.start N vs) H _ I (spM_start hn hsp)) (fun fl s' hs => ?_) fun e s' hs => hs
  have fin : ∀ {τ : L2.St} {H' : Hp} {v : V} {u : Value}, Inv (hX P w g mg base N qual (defScope st) f cdv A outer s H E) [] τ H' s' → RelV v u → Q v H' → CE outer P w H s Q u s' :=
    fun {τ H' v u} J rv q => ⟨v, H', J.os, J.bare, J.base, J.hok, rv, q⟩
  cases fl with
  | ret u => obtain ⟨v, τ, H', J, rv, q⟩ := hs; exact fin J rv q
  | next => obtain ⟨τ, H', J, q⟩ := hs; exact fin (v := V.non) (u := Value.none) J rfl q
  | brk => obtain ⟨_, _, _, q⟩ := hs; exact q.elim
  | cont => obtain ⟨_, _, _, q⟩ := hs; exact q.elim
/-- a def by its name, called from anywhere -/
structure FnMN (P : Program) (w : World) (mg : Str → Option Value) (base : Heap) (g : Gd) (k : Nat) (x qual : Str) (st : Stmt) (ps : List Str) (n : Nat) (m : List D → MH → Res D) : Prop where
  ex : ∃ f fd, Fun g.K x qual st f fd ∧ FnN P w g.K mg base k f fd ps (spM g n m) ∧ mg x = some (.ref f) ∧ Binds g.K fd ps [] ∧ ps.length = n
theorem FnMN.mk' {x qual : Str} {st : Stmt} {N ps : List Str} {k n : Nat} {body : MS} (T : At mg g x qual st ps) (S : FnScope N ps (defScope st)) (hn : ps.length = n)
    (hbody : ∀ (f : Addr) (cdv : Value) (A : Around) (outer : List Env) (s : Shared) (H : Hp) (E : XK), L2H.RoomH k (hX P w g mg base N qual (defScope st) f cdv A outer s H E).A → Takes (hX P w g mg base N qual (defScope st) f cdv A outer s H E) (bW E) →
      PSs (hX P w g mg base N qual (defScope st) f cdv A outer s H E) (defBody st) (RdS g (bW E) pn0 body)) : FnMN P w mg base g (k + 1) x qual st ps n (mFn n N.length body) := by
  obtain ⟨f, fd, F, hm, hb⟩ := T
  exact ⟨f, fd, F, fnN_mk F S hn (fun cdv A outer s H E hr tk => hbody f cdv A outer s H E hr tk), hm, hb, hn⟩
end
/-- nothing is known of it: a branch that is not gone -/
def mStuck : MS := fun _ _ => .stuck
theorem mss_stuck {X : Cx} {g : Gd} {W : WX} {p : Pn} {sts : List Stmt} : PSs X sts (RdS g W p mStuck) := ⟨fun pins s σ H D I ⟨w, ds, h, sm, q⟩ => q.elim⟩
section
variable {X : Cx} {g : Gd} {W : WX} {p : Pn} {pos pp : Pos} {e : Expr} {es : List Expr} {ma : MA} {k n : Nat} {x qual : Str} {st : Stmt} {ps : List Str} {m : List D → MH → Res D}
theorem run_fnN {f : Addr} {fd : FuncData} {sp : Sp} {E : L2.St → XK} {pins : List (Addr × Obj)} {σ : L2.St} {H : Hp} {s : Shared} {Q : VK} {us : List Value} {vs : List V} (F : FnN X.prog X.w X.K X.mg X.base k f fd ps sp) (hr : L2H.RoomH k X.A) (hb : Binds X.K fd ps []) (hx : PassesAt (L2.CX X.prog X.w) X σ (E σ))
    (I : Inv X pins σ H s) (r : Vals vs us) (h : sp vs H Q (E σ)) : wpAny (model X.prog X.w) X.A (call (.ref f) us) (EP X pins σ Q) X.xe s := by
  have hl : us.length = ps.length := by rw [← r.length]; exact F.len _ _ _ _ h
  have b := hb s us I.kIn (by rw [List.append_nil]; exact hl)
  rw [List.append_nil] at b
  refine wpAny_call (codeAny_mono (F.run X.A X.stack s H ⟨us, []⟩ us vs Q (E σ) hr I.env0 b r h) fun r s' hq => ?_)
  cases r with
  | error e => exact hx pins H s e s' I hq
  | ok fl =>
    cases fl with
    | ret u => exact I.after hq
    | next => exact False.elim hq
    | brk => exact False.elim hq
    | cont => exact False.elim hq
theorem me_callN (hk : X.K = g.K) (F : FnMN X.prog X.w X.mg X.base g k x qual st ps n m) (hr : L2H.RoomH k X.A) (tk : Takes X W) (ha : PA X (e :: es) (RdA g W p ma)) (hg : Gl X x := by rfl) (hdb : (x == ("__debug__" : Str)) = false := by decide)
    (he : starEach (e :: es) X.env = (false, eval e X.env) :: starEach es X.env := by rfl) (hpl : (backTo pos (starEach es X.env)).any (·.1) = false := by rfl) : PE X (.Call (.Name x pp) (e :: es) [] pos) (RdE g W p (mCall n m ma)) := by
  obtain ⟨f, fd, Fu, F, hm, hb, hn⟩ := F
  have kp := Fu.kp
  rw [← hk] at F kp hb
  refine ⟨fun pins s σ H Q I ⟨w, ds, h, sm, q⟩ => ?_⟩
  refine wpAny_Call_Name_kw (ld_glob I hg hm ?_ hdb)
  refine PySem.W.callWith_K (h₀ := X.base) I.ok.mod.kin kp (thn (ha.run pos pins s σ H (fun vs H1 => spM g n m vs H1 Q (WE W σ)) I
    (RdG.mk sm (PostG.bind sm q fun w1 l h1 vs H1 l1 s1 r1 q1 => ?_))) fun us s1 ⟨vs, H1, I1, r, q1⟩ => ⟨I1.kIn, run_fnN (E := WE W) F hr hb (passAt tk σ) I1 r q1⟩) he hpl
  split at q1
  · rename_i hl
    exact ⟨by rw [← r1.length]; exact hl, w1, l, h1, s1.h, r1, q1.slots⟩
  · exact q1.elim
end
end ML
set_option Elab.async false
set_option linter.all false
set_option maxRecDepth 100000
set_option maxHeartbeats 2000000
set_option autoImplicit false
/-! M: a lambda without parameters, handed to a def that calls it. -/
namespace ML
open PySem PySem.Spec PyProof.Rows L2 LamX

/-- the def's slots: the lambda in the first one -/
abbrev pnA (f : Addr) (w0 : Wd) : Pn := ⟨[(0, .ref f)], none, some w0⟩
def mAct (act : MH → Res D) : ME := fun _ h => act h
section
variable {X : Cx} {g : Gd} {p : Pn} {pins : List (Addr × Obj)} {σ : L2.St} {H : Hp} {s : Shared}
theorem act_call {CXg : CXT} {Eg : XK} {Ng : List Str} {qg : Str} {sg : Scope} {gA f c' : Addr} {cdg pm ctv : Value} {params : Arguments} {body : Expr} {scope : Scope} {k : Nat} {a : Str} {pn : List (Addr × Obj)} {xe : Value → Shared → Prop} {W : WX} {mb : ME} {p1 p2 : Pos} {w0 : Wd} {ds : Sl}
    (I : Inv X pins σ H s) (L : LamS X.env.scope scope) (hf : s.heap.get? f = some (PySem.W.kla_obj "<lambda>" (X.env.qual ++ "<lambda>") params body scope (cloFrom X.env.cells scope.names []) pm c' ctv)) (hfn : H f = none) (hfr : f ∉ frs X.stack)
    (hbind : bindArgs (PySem.W.kla_fn "<lambda>" (X.env.qual ++ "<lambda>") params body scope (cloFrom X.env.cells scope.names []) pm (.ref c') ctv) ⟨[], []⟩ = pure [])
    (hds : SimS g w0 ds σ) (hpn : PnOk g w0 p σ) (hF : w0.F c' = some (CodeO c' (X.env.qual ++ "<lambda>")))
    (tk : Takes ((cxOf CXg X.prog X.w X.K X.mg X.base Ng qg sg gA cdg X.A X.stack s H Eg).tr pn xe) W) (hr : Room (k + 1) (X.A.deeper (envOfC qg sg s.heap.objs.size gA cdg)))
    (hbody : ∀ (A : Around) (outer : List Env) (s : Shared) (H : Hp) (E : XK), Room k (A.deeper (lamEnv X scope s.heap.objs.size f c')) → Takes (lamCx X A outer s H E scope f c') (bW E) → PE (lamCx X A outer s H E scope f c') body (RdE g (bW E) p mb))
    (hN : Ng[0]? = some a) (hv : Vis sg a) (hd : (a == ("__debug__" : Str)) = false := by decide) (hcd : (a == ("__classdict__" : Str)) = false := by decide) :
    PE ((cxOf CXg X.prog X.w X.K X.mg X.base Ng qg sg gA cdg X.A X.stack s H Eg).tr pn xe) (.Call (.Name a p1) [] [] p2) (RdE g W (pnA f w0) (mAct fun h => mb ds h)) := by
  refine ⟨fun pz sz τ HZ Q IZ ⟨w, dz, h, sm, q⟩ => ?_⟩
  have slot : τ[0]? = some (some (.ref f)) := sm.p.sl (0, .ref f) (by simp)
  have lw : Le w0 w := sm.p.lo w0 rfl
  refine wpAny_Call_Name_kw (thn ((pe_var (pos := p1) (i := 0) hN hv hd hcd).run pz sz τ HZ (fun v H1 => v = .ref f ∧ H1 = HZ) IZ ⟨.ref f, slot, rfl, rfl⟩) fun u s1 ⟨v, H1, I1, r1, e1, e2⟩ => ?_)
  subst e1 e2
  obtain rfl : u = Value.ref f := r1
  have fn : s1.heap.get? f = some (PySem.W.kla_obj "<lambda>" (X.env.qual ++ "<lambda>") params body scope (cloFrom X.env.cells scope.names []) pm c' ctv) := I1.base.keep f _ hf hfn hfr (fun z => by cases z)
  refine PySem.W.callWith_F0 ⟨_, _, _, _, fn⟩ ?_
  have un : Un (frs X.stack) [] H H1 s.heap s1.heap := I1.base
  obtain ⟨⟨oc, vs, t, hoc, hdc, hvc⟩, _, _⟩ := I1.hok c' _ (sm.h.sub _ _ (lw.F _ _ hF))
  have run : codeAny (model X.prog X.w) (X.A.deeper (envOfC qg sg s.heap.objs.size gA cdg)) (.call (.ref f) ⟨[], []⟩) (CR (L2.CX X.prog X.w) (envOfC qg sg s.heap.objs.size gA cdg :: X.stack) X.prog X.w H1 s1 Q (WE W τ)) s1 := by
    refine PySem.W.kla_callFunE hr.depth fn rfl L.co L.gen rfl ⟨c', oc, vs, t, rfl, hoc, hdc, hvc⟩ ?_
    rw [hbind]
    refine wpAny_pure (wpAny_newFunctionEnv (fun y hy => (L.own y hy).2) (fun y hy => absurd hy (by simp)) (fun h₁ hns hsb => ⟨I1.nolimit.fresh _ hsb, ?_⟩) L.kind)
    show codeAny _ _ (.expr body (lamEnv X scope s1.heap.objs.size f c')) _ _
    have kp : ∀ b o, s1.heap.get? b = some o → h₁.get? b = some o := fun b o e => hsb.extBut b o (Nat.ne_of_lt (Heap.lt_size e)) (Heap.get?_push_of_some _ e)
    have J : Inv (lamCx X (X.A.deeper (envOfC qg sg s.heap.objs.size gA cdg)) (envOfC qg sg s.heap.objs.size gA cdg :: X.stack) s1 H1 (WE W τ) scope f c') [] σ H1 { s1 with heap := h₁, toks := s1.toks + ([] : List (Str × Value)).length } :=
      lam_start2 I L I1.env0 hr.hd un hns kp
    have qb : RdE g (bW (WE W τ)) p mb σ H1 Q := ⟨w, ds, h, ⟨hds.mono lw, sm.h, hpn.mono lw⟩, PostG.slots q⟩
    refine PySem.W.kla_codeExpr (wpAny_mono ((hbody _ _ s1 H1 (WE W τ) (hr.deeper _) (takes_of rfl rfl rfl rfl)).run [] _ _ H1 Q J qb) (fun v s' hq => ?_) fun e s' hq => hq)
    obtain ⟨x, H', J', rv, q'⟩ := hq
    exact ⟨x, H', J'.os, J'.bare, J'.base, J'.hok, rv, q'⟩
  refine wpAny_call (codeAny_mono run fun r s' hq => ?_)
  cases r with
  | error e => exact passAt tk τ pz H1 s1 e s' I1 hq
  | ok fl =>
    cases fl with
    | ret u => exact I1.after hq
    | next => exact False.elim hq
    | brk => exact False.elim hq
    | cont => exact False.elim hq
end
/-- the def behind: its result by the lambda's -/
def mFnA (n N : Nat) (body : MS) : List D → MH → Res D := fun l h => if l.length = n then (match body (none :: (l.map some ++ List.replicate (N - (n + 1)) none)) h with
  | .next _ h' => .ok .non h' | .ret d h' => .ok d h' | .exc x _ h' => .exc x h' | _ => .stuck) else .stuck
/-- a def whose first parameter is a lambda that it calls -/
structure FnA (P : Program) (w : World) (mg : Str → Option Value) (base : Heap) (g : Gd) (k : Nat) (x qual : Str) (st : Stmt) (N ps : List Str) (a : Str) (n : Nat) (body : (MH → Res D) → MS) : Prop where
  at_ : At mg g x qual st ps
  sc : FnScope N ps (defScope st)
  len : ps.length = n + 1
  hN : N[0]? = some a
  hv : Vis (defScope st) a
  rule : ∀ (f : Addr) (cdv : Value) (A : Around) (outer : List Env) (s : Shared) (H : Hp) (E : XK) (fl : Addr) (w0 : Wd) (act : MH → Res D), Room k (bX P w g mg base N qual (defScope st) f cdv A outer s H E).A →
    (∀ (W : WX) (pn : List (Addr × Obj)) (xe : Value → Shared → Prop), Takes ((bX P w g mg base N qual (defScope st) f cdv A outer s H E).tr pn xe) W → ∀ p1 p2 : Pos, PE ((bX P w g mg base N qual (defScope st) f cdv A outer s H E).tr pn xe) (.Call (.Name a p1) [] [] p2) (RdE g W (pnA fl w0) (mAct act))) →
    Takes (bX P w g mg base N qual (defScope st) f cdv A outer s H E) (bW E) → PassesOwn (model P w) (bX P w g mg base N qual (defScope st) f cdv A outer s H E).A (bX P w g mg base N qual (defScope st) f cdv A outer s H E).env (bX P w g mg base N qual (defScope st) f cdv A outer s H E).xe →
    PSs (bX P w g mg base N qual (defScope st) f cdv A outer s H E) (defBody st) (RdS g (bW E) (pnA fl w0) (body act))
/-- where a def's lambdas are written: q their name -/
structure TabM (mg : Str → Option Value) (base : Heap) (g : Gd) (cdv : Value) (q : Str) : Prop where
  ex : ∃ c P, cdv = .ref c ∧ TabB base mg c P ∧ (P, q) ∈ g.T ∧ ∀ z ∈ g.T, z.1 = P → z.2 = q
theorem startA {g : Gd} {W : WX} {n : Nat} {N : List Str} {body : MS} {fl : Addr} {w : Wd} {l : List D} {h : MH} {H : Hp} {vs : List V} {Q : VK} {E : XK} (sh : SimH g w h H) (r : Reps g w l vs) (hN : n + 1 ≤ N.length) (q : PostG g (Rep g) (bW E) w [] (mFnA n N.length body l h) Q) :
    RdS g (bW E) (pnA fl w) body { nx := fun _ H' => Q .non H', rt := Q } (L2.start N (.ref fl :: vs)) H := by
  unfold mFnA at q
  split at q
  · rename_i hl
    have hlv : vs.length = n := by rw [← r.length]; exact hl
    have e0 : L2.start N (.ref fl :: vs) = some (.ref fl) :: (vs.map some ++ List.replicate (N.length - (n + 1)) none) := by
      simp [L2.start, hlv]
    refine ⟨w, none :: (l.map some ++ List.replicate (N.length - (n + 1)) none), h, ⟨⟨by rw [e0]; simp [hl, hlv], fun i d e => ?_⟩, sh, ⟨fun z hz => ?_, fun _ _ z => (by cases z), fun w0 z => (by cases z; exact Le.refl w)⟩⟩, ?_⟩
    · rw [e0]
      cases i with
      | zero => simp at e
      | succ i =>
        simp only [List.getElem?_cons_succ] at e ⊢
        by_cases hi : i < l.length
        · rw [List.getElem?_append_left (by simpa using hi), List.getElem?_map] at e
          cases e2 : l[i]? with
          | none => rw [e2] at e; cases e
          | some d' =>
            rw [e2] at e
            simp at e; subst e
            obtain ⟨v, h1, h2⟩ := r.get e2
            refine ⟨v, ?_, h2⟩
            rw [List.getElem?_append_left (by simp; rw [← r.length]; exact hi), List.getElem?_map, h1]; rfl
        · rw [List.getElem?_append_right (by simpa using hi), List.getElem?_replicate] at e
          split at e <;> cases e
    · have : z = (0, .ref fl) := by simpa using hz
      subst this
      rw [e0]; rfl
    · cases e : body (none :: (l.map some ++ List.replicate (N.length - (n + 1)) none)) h with
      | next ds h' => rw [e] at q; exact fun w' σ' H' l' s' => q w' .non H' l' s'.h (by simp [Rep])
      | ret d h' => rw [e] at q; exact q
      | exc x ds h' => rw [e] at q; exact fun w' σ' c dd H' l' s' r' => q w' c dd H' l' s'.h r'
      | brk ds h' => rw [e] at q; exact q.elim
      | cont ds h' => rw [e] at q; exact q.elim
      | stuck => rw [e] at q; exact q.elim
  · exact q.elim
def mCallA (m : (MH → Res D) → List D → MH → Res D) (mb : ME) (ma : MA) : ME := fun ds h => (ma ds h).bind fun l h1 => m (fun h2 => mb ds h2) l h1
section
variable {X : Cx} {g : Gd} {W : WX} {p : Pn} {pos pp lpos : Pos} {es : List Expr} {ma : MA} {mb : ME} {k n : Nat} {x qual a : Str} {st : Stmt} {N ps : List Str} {body : (MH → Res D) → MS} {params : Arguments} {lb : Expr} {scope : Scope}
theorem me_callA (q : Str) (hk : X.K = g.K) (F : FnA X.prog X.w X.mg X.base g (k + 1) x qual st N ps a n body) (TM : TabM X.mg X.base g X.env.code q) (hr : Room (k + 2) X.A) (tk : Takes X W) (L : LamS X.env.scope scope)
    (hbody : ∀ (A : Around) (outer : List Env) (s : Shared) (H : Hp) (E : XK) (f c' : Addr), Room k (A.deeper (lamEnv X scope s.heap.objs.size f c')) → Takes (lamCx X A outer s H E scope f c') (bW E) → PE (lamCx X A outer s H E scope f c') lb (RdE g (bW E) p mb))
    (ha : PA X es (RdA g W p ma)) (hq : X.env.qual ++ "<lambda>" = q := by rfl) (hdef : defaultsOf params X.env = ([], []) := by rfl)
    (hbind : ∀ (q : Str) (cl : List (Str × Addr)) (pm cv ctv : Value), bindArgs (PySem.W.kla_fn "<lambda>" q params lb scope cl pm cv ctv) ⟨[], []⟩ = pure [] := by intros; rfl) (hg : Gl X x := by rfl) (hdb : (x == ("__debug__" : Str)) = false := by decide)
    (hd : (a == ("__debug__" : Str)) = false := by decide) (hcd : (a == ("__classdict__" : Str)) = false := by decide)
    (he : starEach (.Lambda params lb scope lpos :: es) X.env = (false, eval (.Lambda params lb scope lpos) X.env) :: starEach es X.env := by rfl) (hpl : (backTo pos (starEach es X.env)).any (·.1) = false := by rfl) :
    PE X (.Call (.Name x pp) (.Lambda params lb scope lpos :: es) [] pos) (RdE g W p (mCallA (fun act => mFnA n N.length (body act)) mb ma)) := by
  obtain ⟨⟨gf, fd, Fu, hm, hb⟩, S, hlen, hN0, hva, rule⟩ := F
  obtain ⟨c, P, hcode, TB, hT1, hT2⟩ := TM
  subst hq
  have kp := Fu.kp
  obtain ⟨oc, od, kV, doc, pm, an, cdv, ct, osl, rfl, lk, hcd2⟩ := Fu.ex
  rw [← hk] at kp hb lk hcd2
  have hNl : n + 1 ≤ N.length := by
    have := congrArg List.length S.pre
    rw [List.length_take, hlen] at this; omega
  refine ⟨fun pins s σ H Q I ⟨w, ds, h, sm, q⟩ => ?_⟩
  refine wpAny_Call_Name_kw (ld_glob I hg hm ?_ hdb)
  refine PySem.W.callWith_K (h₀ := X.base) I.ok.mod.kin kp ?_ he hpl
  rw [he]
  refine Calls.spliced_cons (lam_make2 I TB hcode hT1 hT2 sm.h.tb hdef (L.has I.ok) fun f c' pm' ctv H1 s1 I1 eN T1 hf hfn hfr hco => ?_)
  have sm1 : Sm g w ds σ h H1 p := ⟨sm.s, sm.h.extN eN T1, sm.p⟩
  obtain ⟨lw, sh2⟩ := sm1.h.learn hco (fun z => z) codeO_ne
  have sm2 := sm1.at_ lw sh2
  have nL : f ≠ X.env.locals := fun z => by
    obtain ⟨m, ⟨o, es', ep, ho, hd', _⟩, _⟩ := I1.loc
    rw [← z, hf] at ho
    cases ho
    cases hd'
  have nF : f ∉ X.fs := fun z => hfr (by
    rcases I1.ok.stk with e | ⟨e, _⟩
    · rw [e]; exact z
    · rw [e]; exact List.mem_filterMap.mpr (by
        obtain ⟨b, hb1, hb2⟩ := List.mem_filterMap.mp z
        exact ⟨b, List.mem_cons_of_mem _ hb1, hb2⟩))
  have I2 : Inv X ((f, PySem.W.kla_obj "<lambda>" (X.env.qual ++ "<lambda>") params lb scope (cloFrom X.env.cells scope.names []) pm' c' ctv) :: pins) σ H1 s1 := I1.pins_of fun z hz => by
    rcases List.mem_cons.mp hz with rfl | hz
    · exact ⟨hf, hfn, nL, nF, fun v e => by cases e⟩
    · exact I1.pin z (List.mem_append_right _ hz)
  refine thn (ha.run pos _ s1 σ H1 (fun vs H2 => ∃ w2 l h2, Le (w.add c' (CodeO c' (X.env.qual ++ "<lambda>"))) w2 ∧ Sm g w2 ds σ h2 H2 p ∧ Reps g w2 l vs ∧ PostG g (Rep g) W w2 σ (mFnA n N.length (body fun h3 => mb ds h3) l h2) Q) I2
    (RdG.mk sm2 (PostG.bind sm2 (q.mono lw) fun w2 l h2 vs H2 l2 s2 r2 q2 => ⟨w2, l, h2, l2, s2, r2, q2⟩))) fun us s2 ⟨vs, H2, I3, rv, w2, l, h2, l2, sm3, r2, q2⟩ => ⟨I3.kIn, ?_⟩
  obtain ⟨hf3, hfn3, _, _, _⟩ := I3.pin (f, _) (List.mem_append_right _ List.mem_cons_self)
  have I4 : Inv X pins σ H2 s2 := I3.pins_of fun z hz => I3.pin z (List.mem_append_right _ (List.mem_cons_of_mem _ hz))
  have hlv : vs.length = n := by
    unfold mFnA at q2
    split at q2
    · rename_i hl; rw [← r2.length]; exact hl
    · exact q2.elim
  have hlu : us.length = n := by rw [← rv.length]; exact hlv
  have hF : w2.F c' = some (CodeO c' (X.env.qual ++ "<lambda>")) := l2.F _ _ upd_same
  have b := hb s2 (.ref f :: us) I4.kIn (by rw [List.append_nil]; simp [hlen, hlu])
  rw [List.append_nil] at b
  have hbX : (bX X.prog X.w g X.mg X.base N qual (defScope st) gf cdv X.A X.stack s2 H2 (WE W σ)) = cxOf (L2.CX X.prog X.w) X.prog X.w X.K X.mg X.base N qual (defScope st) gf cdv X.A X.stack s2 H2 (WE W σ) := by rw [hk]
  have run : codeAny (model X.prog X.w) X.A (.call (.ref gf) ⟨.ref f :: us, []⟩) (CR (L2.CX X.prog X.w) X.stack X.prog X.w H2 s2 Q (WE W σ)) s2 := by
    refine run_ofS (N := N) (ps := ps) (us := .ref f :: us) (vs := .ref f :: vs) lk hcd2 S hr I4.env0 b (.cons rfl rv) (by simp [hlen, hlv]) fun hr' => ?_
    refine ⟨RdS g (bW (WE W σ)) (pnA f w2) (body fun h3 => mb ds h3), ?_, startA (W := W) sm3.h r2 hNl q2.slots⟩
    have := rule gf cdv X.A X.stack s2 H2 (WE W σ) f w2 (fun h3 => mb ds h3) hr' (fun W' pn xe tk' p1 p2 => by
      rw [hbX] at tk' ⊢
      exact act_call (k := k) I4 L hf3 hfn3 hfr (hbind _ _ _ _ _) sm3.s sm3.p hF tk' hr' (fun A outer s H E hr2 tk2 => hbody A outer s H E f c' hr2 tk2) hN0 hva hd hcd) (takes_of rfl rfl rfl rfl) (passes_of rfl)
    rw [hbX] at this
    exact this
  refine wpAny_call (codeAny_mono run fun r s' hq => ?_)
  cases r with
  | error e => exact passAt tk σ pins H2 s2 e s' I4 hq
  | ok fl =>
    cases fl with
    | ret u => exact I4.after hq
    | next => exact False.elim hq
    | brk => exact False.elim hq
    | cont => exact False.elim hq
end
end ML
set_option Elab.async false
set_option linter.all false
set_option maxRecDepth 100000
set_option maxHeartbeats 2000000
set_option autoImplicit false
/-! M: more of what is built in. -/
namespace ML
open PySem PySem.Spec PyProof.Rows L2

/-! ### constants of the module, a def of which nothing is known -/
section
variable {X : Cx} {g : Gd} {W : WX} {p : Pn} {pos : Pos} {x : Str}
theorem me_gint {i : Int} (hm : ∃ t, X.mg x = some (.int i t)) (hg : Gl X x := by rfl) (hd : (x == ("__debug__" : Str)) = false := by decide) : PE X (.Name x pos) (RdE g W p (mC (.int i))) := by
  obtain ⟨t, ht⟩ := hm
  exact me_glob (v := .int i) hg ht ⟨t, rfl⟩ (fun _ => by simp [Rep]) hd
theorem me_gstr {z : Str} (hm : ∃ t, X.mg x = some (.str z t)) (hg : Gl X x := by rfl) (hd : (x == ("__debug__" : Str)) = false := by decide) : PE X (.Name x pos) (RdE g W p (mC (.str z))) := by
  obtain ⟨t, ht⟩ := hm
  exact me_glob (v := .str z) hg ht ⟨t, rfl⟩ (fun _ => by simp [Rep]) hd
end
theorem FnM.none {P : Program} {w : World} {mg : Str → Option Value} {base : Heap} {g : Gd} {x qual : Str} {st : Stmt} {ps : List Str} {n k : Nat} (T : At mg g x qual st ps) (hn : ps.length = n) : FnM P w mg base g k x qual st ps n (fun _ _ => .stuck) := by
  obtain ⟨f, fd, F, hm, hb⟩ := T
  refine ⟨f, fd, F, ⟨fun vs H Q E h => by rw [hn]; exact h.1, fun A outer s H args us vs Q E hr e0 hbd r hsp => ?_⟩, hm, hb, hn⟩
  obtain ⟨_, w, l, h, s, r, q⟩ := hsp
  exact q.elim

/-! ### lists of unlike lengths; instances -/
/-- the classes whose instances are equal to themselves alone -/
def gEqL (ne : Bool) : O2 := fun a b h => match lstOf a h, lstOf b h with
  | some x, some y => if x.length = y.length then none else some (.bl ne, h)
  | _, _ => none
def orO (f k : O2) : O2 := fun a b h => match f a b h with
  | some r => some r | none => k a b h
theorem om_or {X : Cx} {g : Gd} {op : Value → Value → Sem Value} {f k : O2} (hf : OpM X g op f) (hk : OpM X g op k) : OpM X g op (orO f k) := by
  rintro pins s σ H x y v u Q I rx ry ⟨w, h, a, b, sh, ra, rb, q⟩
  unfold orO at q
  cases e : f a b h with
  | some r =>
    rw [e] at q
    exact hf pins s σ H x y v u Q I rx ry ⟨w, h, a, b, sh, ra, rb, by rw [e]; exact q⟩
  | none =>
    rw [e] at q
    exact hk pins s σ H x y v u Q I rx ry ⟨w, h, a, b, sh, ra, rb, q⟩
section
variable {X : Cx} {g : Gd}
theorem lens_ne {vs us : List V} {its its2 : List Value} {l k : List D} {w : Wd} (r1 : Vals vs its) (r2 : Vals us its2) (e1 : Reps g w l vs) (e2 : Reps g w k us) (h : ¬ l.length = k.length) : (its.toArray.size != its2.toArray.size) = true := by
  have h1 := r1.length
  have h2 := r2.length
  have h3 := e1.length
  have h4 := e2.length
  simp only [List.size_toArray, bne_iff_ne, ne_eq]
  omega
theorem om_eqL (hu : X.A.units < cLine) : OpM X g (compareOp .Eq) (gEqL false) := by
  rintro pins s σ H x y v u Q I rx ry ⟨w, h, a, b, sh, ra, rb, q⟩
  unfold gEqL at q
  split at q
  · rename_i l k el ek
    split at q
    · exact q.elim
    · rename_i hne
      obtain ⟨a1, vs, rfl, f1, r1⟩ := lstOf_ok sh ra el
      obtain ⟨a2, us, rfl, f2, r2⟩ := lstOf_ok sh rb ek
      cases rx
      cases ry
      obtain ⟨its, v1, p1, _⟩ := I.list (SqL.of f1)
      obtain ⟨its2, v2, p2, _⟩ := I.list (SqL.of f2)
      exact SeqAt.eq_list_lengthsAt p1.isList p2.isList (lens_ne v1 v2 r1 r2 hne) hu ⟨.bl false, H, I, rfl, q w _ H (Le.refl w) sh (by simp [Rep])⟩
  · exact q.elim
theorem om_neL (hu : X.A.units < cLine) : OpM X g (compareOp .NotEq) (gEqL true) := by
  rintro pins s σ H x y v u Q I rx ry ⟨w, h, a, b, sh, ra, rb, q⟩
  unfold gEqL at q
  split at q
  · rename_i l k el ek
    split at q
    · exact q.elim
    · rename_i hne
      obtain ⟨a1, vs, rfl, f1, r1⟩ := lstOf_ok sh ra el
      obtain ⟨a2, us, rfl, f2, r2⟩ := lstOf_ok sh rb ek
      cases rx
      cases ry
      obtain ⟨its, v1, p1, _⟩ := I.list (SqL.of f1)
      obtain ⟨its2, v2, p2, _⟩ := I.list (SqL.of f2)
      exact SeqAt.RcNeAt.lists_lengths p1.isList p2.isList (lens_ne v1 v2 r1 r2 hne) hu X.prog X.w X.xe _ ⟨.bl true, H, I, rfl, q w _ H (Le.refl w) sh (by simp [Rep])⟩
  · exact q.elim
/-- == , != of any values; both lists empty too -/
def gEqX : O2 := orO gEq (gEqL false)
def gNeX : O2 := orO gNe (gEqL true)
theorem om_eqX (hk : X.K = g.K) (hu : X.A.units + 64 < cLine) : OpM X g (compareOp .Eq) gEqX := om_or (om_eq hk hu) (om_eqL (Nat.lt_of_le_of_lt (Nat.le_add_right _ _) hu))
theorem om_neX (hk : X.K = g.K) (hu : X.A.units + 64 < cLine) : OpM X g (compareOp .NotEq) gNeX := om_or (om_ne hk hu) (om_neL (Nat.lt_of_le_of_lt (Nat.le_add_right _ _) hu))
end
/-! ### max(o.values()) -/
section
variable {X : Cx}
def tMaxVals (td : TE) : TE := fun σ H Q => td σ H fun x H1 => ∃ a kvs ns, x = V.ref a ∧ H1 a = some (.dK kvs) ∧ kvs.map (·.2) = ns.map V.int ∧ ns ≠ [] ∧ ∀ m, m ∈ ns → (∀ j ∈ ns, j ≤ m) → Q (.int m) H1
theorem pe_maxVals {o : Expr} {pp pos apos mpos : Pos} {td : TE} (hc : X.calm = true) (hg : Gl X "max") (hm : X.mg "max" = none) (hd : PE X o td) (hbase : attributeBase o "values" X.env (eval o X.env) = eval o X.env := by rfl) (hline : (apos.endLine == mpos.line) = true := by rfl)
    (hse : starEach [Expr.Call (.Attribute o "values" apos) [] [] mpos] X.env = [(false, eval (Expr.Call (.Attribute o "values" apos) [] [] mpos) X.env)] := by rfl) :
    PE X (.Call (.Name "max" pp) [.Call (.Attribute o "values" apos) [] [] mpos] [] pos) (tMaxVals td) := by
  refine ⟨fun pins s σ H Q I h => ?_⟩
  refine wpAny_Call_Name_kw (ld_blt I hg hm (u := .builtin "max") (by decide +kernel) ?_ (by decide) (by decide))
  rw [hse]
  refine PySem.callWith_builtin1 (wpAny_Call_method0_late hbase hline (thn (hd.run pins s σ H _ I h) fun v s1 ⟨x, H1, I1, rx, a, kvs, ns, ex, ha, hv, hne, q⟩ => ?_))
  subst ex
  obtain rfl : v = Value.ref a := rx
  obtain ⟨_, nsys, vs, rel, dof⟩ := dk_of I1.hok ha
  obtain ⟨ep, at1⟩ := dof.dictAt
  obtain ⟨ob, es, ho, exact1, _⟩ := id at1
  refine ⟨"dict", "dict.values", F.plainAttrs_dict, F.slot_dict_values, F.type_dict_values, ⟨ob, ho, exact1.1⟩, fun b e => by cases e; exact ⟨ob, ho, exact1.2.1⟩, Calls.callWith_builtin rfl (PySem.evalArgs_none ?_)⟩
  refine call_meetsIn F.slot_dict_values ⟨ob, ho, exact1.1⟩ F.entry_dict_values (F.args_dict_values_1 _) (meets_dict_values (mixKind X.prog X.w) a nsys) ⟨⟨vs, dof⟩, ?_⟩
  generalize hh1 : s1.heap.push { cls := .type "dict_values", data := .fields #[.ref a] } = h1
  have keep1 : ∀ b u, s1.heap.get? b = some u → h1.get? b = some u := fun b u e => by rw [← hh1]; exact Heap.get?_push_of_some _ e
  have top1 : h1.get? s1.heap.objs.size = some { cls := .type "dict_values", data := .fields #[.ref a] } := by rw [← hh1]; exact Heap.get?_push_size _ rfl
  have size1 : h1.objs.size = s1.heap.objs.size + 1 := by rw [← hh1]; exact Heap.size_push _ _
  have at2 : h1.DictAt (mixKind X.prog X.w) a vs ep := at1.keep keep1
  have lenV : vs.length = ns.length := by
    have e1 := congrArg List.length hv
    rw [List.length_map, List.length_map] at e1
    rw [← e1]; exact (KV.length rel).symm
  have pos1 : 0 < vs.length := by rw [lenV]; exact List.length_pos_iff.mpr hne
  have vals : ∀ (i : Nat) (v : Value), (∃ k, vs[i]? = some (k, v)) → ∃ t, v = Value.int (ns.getD i 0) t := by
    rintro i v ⟨k, hk⟩
    obtain ⟨x, e1, r1⟩ := KV.at' rel hk
    have e2 : (kvs.map (·.2))[i]? = some x := by rw [List.getElem?_map, e1]; rfl
    rw [hv, List.getElem?_map] at e2
    obtain ⟨j, e3, e4⟩ := Option.map_eq_some_iff.mp e2
    subst e4
    obtain ⟨t, e5⟩ := r1
    exact ⟨t, by rw [e5, List.getD_eq_getElem?_getD, e3]; rfl⟩
  have below : a < s1.heap.objs.size := Heap.lt_size ho
  refine PySem.call_max_walk (wpAny_pyIter_values (v := s1.heap.objs.size) (d := a) ⟨_, top1, rfl, rfl⟩ at2 ?_)
  refine ⟨_, _, _, _, _, _, _, rfl, Walks.dictValues (knd := mixKind X.prog X.w) (A := X.A.in1) (I.ok.hd hc) h1.objs.size a (by rw [size1]; exact Nat.ne_of_lt (Nat.lt_succ_of_lt below)) vs ep,
    ⟨⟨_, Heap.get?_push_size _ rfl, rfl, rfl⟩, at2.keep fun b u e => Heap.get?_push_of_some _ e⟩, fun b hb => ?_, pos1, CmpOf.ints_gt (fun i => ns.getD i 0) vals, fun v h' tk hP hk => ?_⟩
  · show b < (h1.push _).objs.size
    rw [Heap.size_push]
    rcases List.mem_cons.mp hb with e | hb
    · rw [e]; exact Nat.lt_succ_self _
    · rw [List.mem_singleton.mp hb, size1]
      exact Nat.lt_succ_of_lt (Nat.lt_succ_of_lt below)
  · obtain ⟨t, rfl⟩ := vals _ v hP
    obtain ⟨b1, b2⟩ := PySem.argBest_gt (fun i => ns.getD i 0) (vs.length - 1)
    refine ⟨.int _, H1, I1.kept (t' := tk) fun b u e => hk b u (fun hmem => ?_) (Heap.get?_push_of_some _ (keep1 b u e)), ⟨t, rfl⟩, q _ ?_ fun j hj => ?_⟩
    · have e1 := List.mem_singleton.mp hmem
      have e2 := Heap.lt_size e
      rw [e1, size1] at e2
      exact absurd e2 (Nat.not_lt.mpr (Nat.le_succ _))
    · have hb : PySem.argBest (fun i j => decide (ns.getD i 0 > ns.getD j 0)) (vs.length - 1) < ns.length := by omega
      rw [List.getD_eq_getElem?_getD, List.getElem?_eq_getElem hb]
      exact List.getElem_mem hb
    · obtain ⟨i, hi, e⟩ := List.mem_iff_getElem.mp hj
      have e2 : ns.getD i 0 = j := by rw [List.getD_eq_getElem?_getD, List.getElem?_eq_getElem hi, ← e]; rfl
      rw [← e2]
      exact b2 i (by omega)
end
def mMaxV (mo : ME) : ME := fun ds h => (mo ds h).bind fun d h1 => match (dicOf d h1).bind fun q => intsOf q.2 with
  | some (b :: bs) => .ok (.int (maxI (b :: bs))) h1 | _ => .stuck
section
variable {X : Cx} {g : Gd} {W : WX} {p : Pn} {o : Expr} {pp pos apos mpos : Pos} {mo : ME}
theorem me_maxVals (hc : X.calm = true) (hm : X.mg "max" = none) (he : PE X o (RdE g W p mo)) (hg : Gl X "max" := by rfl) (hbase : attributeBase o "values" X.env (eval o X.env) = eval o X.env := by rfl) (hline : (apos.endLine == mpos.line) = true := by rfl)
    (hse : starEach [Expr.Call (.Attribute o "values" apos) [] [] mpos] X.env = [(false, eval (Expr.Call (.Attribute o "values" apos) [] [] mpos) X.env)] := by rfl) :
    PE X (.Call (.Name "max" pp) [.Call (.Attribute o "values" apos) [] [] mpos] [] pos) (RdE g W p (mMaxV mo)) := by
  refine PE.imp (pe_maxVals hc hg hm he hbase hline hse) fun σ H Q ⟨w, ds, h, s, q⟩ => ?_
  refine RdG.mk s (PostG.bind s q fun w1 d h1 x H1 l1 s1 r1 q1 => ?_)
  cases e1 : dicOf d h1 with
  | none => rw [e1] at q1; exact q1.elim
  | some z =>
    rw [e1] at q1
    simp only [Option.bind_some] at q1
    cases e2 : intsOf z.2 with
    | none => rw [e2] at q1; exact q1.elim
    | some bs =>
      rw [e2] at q1
      cases bs with
      | nil => exact q1.elim
      | cons b bs =>
        obtain ⟨a, kvs, rfl, f, _, r2⟩ := dicOf_ok s1.h r1 e1
        exact ⟨a, kvs, b :: bs, rfl, f, intsOf_ok e2 r2, by simp, fun m h1 h2 => by rw [maxI_eq h1 h2]; exact q1 w1 _ H1 (Le.refl _) s1.h (by simp [Rep])⟩
end
/-! ### instances: equal to themselves alone -/
structure EqM (K : PySem.W.Frag) (C : Addr) : Prop where
  mro : PySem.W.mroIn K C (.type "object") = some true
  eq : PySem.W.findIn K (.ref C) "__eq__" = some (some (.builtin "object.__eq__"))
section
variable {A : Around} {s : Shared} {K : PySem.W.Frag} {x y C : Addr} {ox oy : Obj} {od od' : Option Obj}
theorem try_ins {prog : Program} {w : World} {E : Value → Shared → Prop} (X : K.In s.heap) (Ix : PySem.W.InstAt s.heap x ox C od) (Iy : PySem.W.InstAt s.heap y oy C od') (hxy : x ≠ y) (Fe : EqM K C) :
    wpAny (model prog w) A (tryCompare (.ref x) "__eq__" (.ref y)) (fun r s' => r = none ∧ s' = s) E s := by
  unfold tryCompare
  refine wpAny_bind (HN.ifBound_objEq X Ix Fe.eq ?_)
  refine wpAny_call (codeAny_call_builtin F.cmp_object.eq.plain F.cmpEntry_eq (PySem.W.check_slot F.cmpKind_eq F.cmpSplit_eq (Ix.type.andThen (PySem.W.looks_mroIn X Fe.mro)) (F.cmpArgs_eq _ _) (objEq_entry_other hxy Ix.at_ Iy.at_ (by rw [Ix.cls]; intro e; cases e) ?_)))
  exact wpAny_pure ⟨rfl, rfl⟩
theorem rc_ins (hu : A.units < cLine) (X : K.In s.heap) (Ix : PySem.W.InstAt s.heap x ox C od) (Iy : PySem.W.InstAt s.heap y oy C od') (hxy : x ≠ y) (Fe : EqM K C) : SeqAt.RcAt A s (.ref x) (.ref y) false := fun prog w E Q h => by
  simp only [richCompare, PySem.cmpInfo_Eq, oneThing_ref]
  refine wpAny_holding (wpAny_bind (wpAny_cRoomFor hu ?_))
  refine wpAny_bind (Ix.type.here ?_)
  refine wpAny_bind (Iy.type.here ?_)
  simp only [bne_self_eq_false, Bool.false_eq_true, if_false, pure_bind]
  refine wpAny_bind (wpAny_mono (try_ins (E := E) X Ix Iy hxy Fe) (fun r s1 z => ?_) fun _ _ e => e)
  obtain ⟨rfl, rfl⟩ := z
  simp only [Bool.not_false, if_true]
  refine wpAny_bind (wpAny_mono (try_ins (E := E) X Iy Ix hxy.symm Fe) (fun r s2 z => ?_) fun _ _ e => e)
  obtain ⟨rfl, rfl⟩ := z
  exact wpAny_bind (wpAny_rule (wpAny_bind (wpAny_isSame_ref_other hxy Ix.at_ Iy.at_ (by rw [Ix.cls]; intro e; cases e) (wpAny_pure h))))
end
/-- two instances of one class, each equal to itself alone, not the same one -/
def gEqI (c : Nat) : O2 := fun a b h => match a, b with
  | .ref n, .ref m => (match h[n]?, h[m]? with
    | some (.ins c1 _), some (.ins c2 _) => if c1 = c ∧ c2 = c ∧ n ≠ m then some (.bl false, h) else none
    | _, _ => none)
  | _, _ => none
theorem om_eqI {X : Cx} {g : Gd} {c : Nat} {C : Addr} (hk : X.K = g.K) (hu : X.A.units < cLine) (hc : g.cl[c]? = some C) (Fe : EqM g.K C) : OpM X g (compareOp .Eq) (gEqI c) := by
  rintro pins s σ H x y v u Q I rx ry ⟨w, h, a, b, sh, ra, rb, q⟩
  unfold gEqI at q
  split at q
  · rename_i n m
    split at q
    · rename_i c1 f1 c2 f2 e1 e2
      split at q
      · rename_i hz
        obtain ⟨rfl, rfl, hnm⟩ := hz
        simp only [Rep] at ra rb
        obtain ⟨p1, rfl, m1⟩ := ra
        obtain ⟨p2, rfl, m2⟩ := rb
        obtain ⟨a1, k1, hF1, C1, dx1, fv1, g1, h1, r1⟩ := sh.ob n _ e1
        obtain ⟨a2, k2, hF2, C2, dx2, fv2, g2, h2, r2⟩ := sh.ob m _ e2
        rw [m1] at k1; cases k1
        rw [m2] at k2; cases k2
        rw [hc] at g1 g2; cases g1; cases g2
        have hne : p1 ≠ p2 := fun z => by
          subst z
          have i1 := List.getElem?_eq_some_iff.mp m1
          have i2 := List.getElem?_eq_some_iff.mp m2
          exact hnm ((List.getElem_inj sh.nd).mp (i1.2.trans i2.2.symm))
        cases rx
        cases ry
        obtain ⟨_, O1, _⟩ := ins_get I.hok h1
        obtain ⟨_, O2, _⟩ := ins_get I.hok h2
        obtain ⟨_, J1, _⟩ := O1.look
        obtain ⟨_, J2, _⟩ := O2.look
        have kin := I.kIn
        rw [hk] at kin
        exact rc_ins hu kin J1 J2 hne Fe X.prog X.w X.xe _ ⟨.bl false, H, I, rfl, q w _ H (Le.refl w) sh (by simp [Rep])⟩
      · exact q.elim
    · exact q.elim
  · exact q.elim
end ML
set_option Elab.async false
set_option linter.all false
set_option maxRecDepth 100000
set_option maxHeartbeats 2000000
set_option autoImplicit false
/-! M: rules in the form in which they are printed. -/
namespace ML
open PySem PySem.Spec PyProof.Rows L2

theorem hu0 {k : Nat} {A : Around} (r : Room k A) : A.units < cLine := by have := r.un; omega
theorem hu1 {k : Nat} {A : Around} (r : Room k A) : A.units + 1 < cLine := by have := r.un; omega
theorem hu64 {k : Nat} {A : Around} (r : Room k A) : A.units + 64 < cLine := by have := r.un; omega
theorem hu65 {k : Nat} {A : Around} (r : Room k A) : A.units + 65 < cLine := by have := r.un; omega
theorem hh64 {k : Nat} {A : Around} (r : L2H.RoomH k A) : A.units + 64 < cLine := by have := r.un; omega
theorem roomSuite {k : Nat} {A : Around} (r : Room k A) (x : Option Value) : L2H.RoomH k (A.mark x) := ⟨r.dp, r.un⟩
theorem bt_int : bootBuiltins "int" = some (.type "int") := by decide +kernel
theorem bt_str : bootBuiltins "str" = some (.type "str") := by decide +kernel
theorem bt_bool : bootBuiltins "bool" = some (.type "bool") := by decide +kernel
theorem bt_tuple : bootBuiltins "tuple" = some (.type "tuple") := by decide +kernel
theorem bt_list : bootBuiltins "list" = some (.type "list") := by decide +kernel
theorem bt_dict : bootBuiltins "dict" = some (.type "dict") := by decide +kernel
theorem bt_set : bootBuiltins "set" = some (.type "set") := by decide +kernel
theorem bb_len : bootBuiltins "len" = some (.builtin "len") := by decide +kernel
theorem bb_all : bootBuiltins "all" = some (.builtin "all") := by decide +kernel
theorem bb_any : bootBuiltins "any" = some (.builtin "any") := by decide +kernel
theorem bb_sum : bootBuiltins "sum" = some (.builtin "sum") := by decide +kernel
theorem bb_max : bootBuiltins "max" = some (.builtin "max") := by decide +kernel
theorem bb_min : bootBuiltins "min" = some (.builtin "min") := by decide +kernel
theorem bb_abs : bootBuiltins "abs" = some (.builtin "abs") := by decide +kernel
theorem bb_divmod : bootBuiltins "divmod" = some (.builtin "divmod") := by decide +kernel
theorem bb_sorted : bootBuiltins "sorted" = some (.builtin "sorted") := by decide +kernel
theorem bb_isinstance : bootBuiltins "isinstance" = some (.builtin "isinstance") := by decide +kernel
/-- an attribute of the instances of the class at place c -/
structure FldM (g : Gd) (c : Nat) (f : Str) : Prop where
  ex : ∃ C, ClM g c C ∧ NoAttr g.K C f
section
variable {X : Cx} {g : Gd} {W : WX} {p : Pn} {pos apos cpos pp : Pos} {o e : Expr} {es : List Expr} {m mo mv : ME} {ma : MA} {c : Nat} {f : Str}
theorem me_fldM (hk : X.K = g.K) (F : FldM g c f) (he : PE X e (RdE g W p m)) (hb : attributeBase e f X.env (eval e X.env) = eval e X.env := by rfl) : PE X (.Attribute e f pos) (RdE g W p (mFld c f m)) := by
  obtain ⟨C, h1, h2⟩ := F
  exact me_fld hk h1 h2 he hb
theorem ms_fldM (hk : X.K = g.K) (F : FldM g c f) (ha : PE X o (RdE g W p mo)) (hv : PE X e (RdE g W p mv)) (hs : swapsWith e (some (.Attribute o f apos)) pos.line X.env = pure false := by rfl) : PS X (.Assign [.Attribute o f apos] e pos) (RdS g W p (mPutFld c f mo mv)) := by
  obtain ⟨C, h1, h2⟩ := F
  exact ms_fld hk h1 h2 ha hv hs
def gNeg (d : D) : Option D := match d with | .int i => some (.int (-i)) | _ => none
def mNeg (m : ME) : ME := fun ds h => (m ds h).bind fun d h1 => onSome (gNeg d) fun x => .ok x h1
theorem me_neg (he : PE X e (RdE g W p m)) : PE X (.UnaryOp .USub e pos) (RdE g W p (mNeg m)) := by
  refine PE.imp (pe_un un_neg he) fun σ H Q ⟨w, ds, h, s, q⟩ => ?_
  refine RdG.mk s (PostG.bind s q fun w1 d h1 x H1 l1 s1 r1 q1 => ?_)
  cases d with
  | int i => exact ⟨i, r1.int, q1 w1 _ H1 (Le.refl _) s1.h (by simp [Rep])⟩
  | _ => exact q1.elim
end
theorem om_eqM {X : Cx} {g : Gd} {c : Nat} (hk : X.K = g.K) (hu : X.A.units < cLine) (F : ∃ C, g.cl[c]? = some C ∧ EqM g.K C) : OpM X g (compareOp .Eq) (gEqI c) := by
  obtain ⟨C, h1, h2⟩ := F
  exact om_eqI hk hu h1 h2
section
variable {X : Cx} {g : Gd} {W : WX} {p : Pn} {pos pp : Pos} {k : Nat} {x qual : Str} {stf : Stmt} {ps : List Str} {m : List D → MH → Res D}
theorem me_call0 (hk : X.K = g.K) (F : FnM X.prog X.w X.mg X.base g k x qual stf ps 0 m) (hr : Room k X.A) (tk : Takes X W) (hg : Gl X x := by rfl) (hdb : (x == ("__debug__" : Str)) = false := by decide) :
    PE X (.Call (.Name x pp) [] [] pos) (RdE g W p (mCall 0 m mNil)) := by
  obtain ⟨f, fd, Fu, F, hm, hb, hn⟩ := F
  have kp := Fu.kp
  rw [← hk] at F kp hb
  refine ⟨fun pins s σ H Q I ⟨w, ds, h, sm, q⟩ => ?_⟩
  refine wpAny_Call_Name_kw (ld_glob I hg hm ?_ hdb)
  exact PySem.W.callWith_K0 (first := []) I.kIn kp (run_fnS (us := []) (vs := []) (E := WE W) F hr hb (passAt tk σ) I .nil ⟨rfl, w, [], h, sm.h, .nil, PostG.slots q⟩)
end
end ML
set_option Elab.async false
set_option linter.all false
set_option maxRecDepth 100000
set_option maxHeartbeats 2000000
set_option autoImplicit false
/-! M: sorted lists of any data that can be compared. -/
namespace ML
open PySem PySem.Spec PyProof.Rows L2

def alikeB (l : List D) : Bool := l.all fun a => l.all fun b => PySem.W.alike (py a) (py b)
def tupB (d : D) : Bool := match d with | .tup (_ :: _) => true | _ => false
def noTupB (d : D) : Bool := match d with | .non => false | .tup _ => false | _ => true
def sortB (l : List D) : Bool := l.all tupB || l.all noTupB
def sortD (l : List D) : List D := l.mergeSort (PySem.W.dataLe false py)
def sortOk (l : List D) : Bool := plainAll l && alikeB l && sortB l && l.all (fun d => decide ((py d).depth ≤ 60)) && decide (l.length ≤ sizeLine)
theorem alikeB_ok {l : List D} (h : alikeB l = true) : PySem.W.AllAlike (l.map py) := fun d hd d' hd' => by
  obtain ⟨a, ha, rfl⟩ := List.mem_map.mp hd
  obtain ⟨b, hb, rfl⟩ := List.mem_map.mp hd'
  exact List.all_eq_true.mp (List.all_eq_true.mp h a ha) b hb
theorem sortB_ok {l : List D} (h : sortB l = true) : PySem.W.Sortable (l.map py) := by
  unfold sortB at h
  rcases Bool.or_eq_true_iff.mp h with h | h
  · refine .inl fun d hd => ?_
    obtain ⟨a, ha, rfl⟩ := List.mem_map.mp hd
    have := List.all_eq_true.mp h a ha
    cases a with
    | tup l =>
      cases l with
      | nil => cases this
      | cons x r => exact ⟨py x, pyAll r, by simp [py, pyAll]⟩
    | _ => cases this
  · refine .inr fun d hd => ?_
    obtain ⟨a, ha, rfl⟩ := List.mem_map.mp hd
    have := List.all_eq_true.mp h a ha
    cases a with
    | non => cases this
    | tup l => cases this
    | _ => exact ⟨by simp [py], fun xs => by simp [py]⟩
section
variable {X : Cx} {g : Gd}
theorem each_rep {w : Wd} : ∀ {l : List D} {vs : List V} {us : List Value}, Reps g w l vs → Vals vs us → PySem.W.EachIs (fun u d => ∃ v, RelV v u ∧ Rep g w d v) us l
  | [], _, _, r, q => by
    rw [r.of_nil] at q
    cases q
    exact .nil
  | d :: l, _, _, r, q => by
    obtain ⟨v, vs, rfl, r1, r2⟩ := r.uncons
    cases q with
    | cons q1 q2 => exact .cons ⟨v, q1, r1⟩ (each_rep r2 q2)
theorem each_back {w : Wd} : ∀ {l : List D} {us : List Value}, PySem.W.EachIs (fun u d => ∃ v, RelV v u ∧ Rep g w d v) us l → ∃ vs, Vals vs us ∧ Reps g w l vs
  | [], _, h => by cases h; exact ⟨[], .nil, .nil⟩
  | d :: l, _, h => by
    cases h with
    | cons h1 h2 =>
      obtain ⟨v, q, r⟩ := h1
      obtain ⟨vs, q2, r2⟩ := each_back h2
      exact ⟨v :: vs, .cons q q2, .cons r r2⟩
theorem each_reads {w : Wd} {pins : List (Addr × Obj)} {σ : L2.St} {H : Hp} {s : Shared} (hk : X.K = g.K) (I : Inv X pins σ H s) (sub : ∀ a o, w.F a = some o → H a = some o) : ∀ {l : List D} {us : List Value}, PySem.W.EachIs (fun u d => ∃ v, RelV v u ∧ Rep g w d v) us l → plainAll l = true → PySem.W.EachIs (fun u d => ∃ as, Reads s.heap u (py d) as) us l
  | [], _, h, _ => by cases h; exact .nil
  | d :: l, _, h, p => by
    have p' : plain d = true ∧ plainAll l = true := by simpa [plainAll] using p
    cases h with
    | cons h1 h2 =>
      obtain ⟨v, q, r⟩ := h1
      have dp := Rep.dp sub d r p'.1
      rw [← hk] at dp
      exact .cons (Dp.reads I _ _ _ dp q) (each_reads hk I sub h2 p'.2)
def cSortD : C1 := fun l h => match l with
  | [d] => (match lstOf d h with | some l => if sortOk l then some (.lst (sortD l), h) else none | none => none)
  | _ => none
theorem cm_sortD (hk : X.K = g.K) (hu : X.A.units + 64 < cLine) : CallM X g (.builtin "sorted") cSortD := by
  rintro pins s σ H vs us Q I rs ⟨w, h, l, sh, r, q⟩
  match l with
  | [] => exact q.elim
  | _ :: _ :: _ => exact q.elim
  | [d] =>
    obtain ⟨v, rfl, r1⟩ := r.one
    simp only [cSortD] at q
    cases e1 : lstOf d h with
    | none => rw [e1] at q; exact q.elim
    | some l =>
      rw [e1] at q
      simp only at q
      split at q
      · rename_i hz
        simp only [sortOk, Bool.and_eq_true, decide_eq_true_eq] at hz
        obtain ⟨⟨⟨⟨z1, z2⟩, z3⟩, z4⟩, z5⟩ := hz
        obtain ⟨a, ws, rfl, f, r2⟩ := lstOf_ok sh r1 e1
        obtain ⟨its, rv, pl, _⟩ := I.list (SqL.of f)
        rw [Vals.ref1 rs]
        have e := each_rep r2 rv
        refine PySem.W.sorted_data pl.isList e (each_reads hk I sh.sub e z1) (alikeB_ok z2) (sortB_ok z3) z5 (fun b hb => ?_) fun out hl ho => ?_
        · have := of_decide_eq_true (List.all_eq_true.mp z4 b hb)
          omega
        · obtain ⟨ys, q1, q2⟩ := each_back ho
          obtain ⟨ep, he⟩ := PyProof.Rows.sortedAll_at s.heap its out.toArray
          have hlen : ys.length ≤ sizeLine := by
            have h1 := q1.length
            omega
          have hn : H (s.heap.objs.size + 1) = none := I.hok.fresh (Nat.le_succ _)
          refine ⟨.ref _, upd H (s.heap.objs.size + 1) (.lst ys), I.laid (t' := s.toks) (fun _ _ => PyProof.Rows.sortedAll_old) (Nat.le_succ _) ⟨hlen, out, ep, q1, he⟩, rfl, ?_⟩
          have le : Le w (w.add (s.heap.objs.size + 1) (.lst ys)) := Le.add (sh.free hn) _
          refine q _ _ _ le (sh.add _ hn) ?_
          simp only [Rep]
          exact ⟨_, ys, rfl, upd_same, Reps.mono le _ q2⟩
      · exact q.elim
def orC (f k : C1) : C1 := fun l h => match f l h with
  | some r => some r | none => k l h
theorem cm_or {u : Value} {f k : C1} (hf : CallM X g u f) (hk : CallM X g u k) : CallM X g u (orC f k) := by
  rintro pins s σ H vs us Q I rs ⟨w, h, l, sh, r, q⟩
  unfold orC at q
  cases e : f l h with
  | some z =>
    rw [e] at q
    exact hf pins s σ H vs us Q I rs ⟨w, h, l, sh, r, by rw [e]; exact q⟩
  | none =>
    rw [e] at q
    exact hk pins s σ H vs us Q I rs ⟨w, h, l, sh, r, q⟩
def cSortedX : C1 := orC cSorted cSortD
theorem cm_sortedX (hc : X.calm = true) (hk : X.K = g.K) (hu : X.A.units + 64 < cLine) : CallM X g (.builtin "sorted") cSortedX := cm_or (cm_sorted hc) (cm_sortD hk hu)
end
end ML
set_option Elab.async false
set_option linter.all false
set_option maxRecDepth 100000
set_option maxHeartbeats 2000000
set_option autoImplicit false
/-! M: sum(lists, list). -/
namespace ML
open PySem PySem.Spec PyProof.Rows L2
section
variable {prog : Program} {w : World} {A : Around} {R : Result → Shared → Prop} {E : Value → Shared → Prop}
/-- the i-th item is a list of the items val i -/
def KeepL (its : Array Value) (val : Nat → List Value) (h : Heap) : Prop := ∀ (i : Nat) (v : Value), its[i]? = some v → ∃ b n, v = .ref b ∧ h.get? b = some { cls := .type "list", data := .seq (val i).toArray n }
def catFrom (val : Nat → List Value) : Nat → Nat → List Value
  | _, 0 => []
  | i, k + 1 => val i ++ catFrom val (i + 1) k
theorem sum_lists_loop (hh : A.handled = none) {l I S : Addr} {its : Array Value} {val : Nat → List Value} (hlI : l ≠ I) (hSI : S ≠ I) (hSl : S ≠ l) : ∀ (k i : Nat) (s : Shared) (tot : Addr) (c n : Nat) (acc : List Value), its.size - i = k → i ≤ its.size →
    s.heap.IsListIter I l i → s.heap.IsList l its → KeepL its val s.heap → (∀ (i : Nat) (v : Value), its[i]? = some v → v ≠ Value.ref S ∧ v ≠ Value.ref I) → tot ≠ S → tot ≠ I → s.heap.get? S = some { cls := .type "list", dict := none, data := .seq #[.ref tot] c, slots := #[] } →
    s.heap.get? tot = some { cls := .type "list", data := .seq acc.toArray n } → (acc ++ catFrom val i k).length ≤ sizeLine →
    (∀ s' tot' n', s'.heap.get? tot' = some { cls := .type "list", data := .seq (acc ++ catFrom val i k).toArray n' } → (tot' = tot ∨ s.heap.objs.size ≤ tot') → (∀ b o, b ≠ S → b ≠ I → s.heap.get? b = some o → s'.heap.get? b = some o) → s'.gens = s.gens → s'.drawn = s.drawn → s'.os = s.os → R (.ok (.ret (.ref tot'))) s') →
    codeAny (model prog w) A (.builtin "sum.loop" ⟨[.ref I, .ref S, rawInt 2, rawInt 0], []⟩) R s := by
  have W := Walks.list (prog := prog) (w := w) (A := A.in1) (by simpa using hh) I l hlI its
  intro k
  induction k with
  | zero =>
    intro i s tot c n acc hk hi hit hl hv hne htS htI hS ht hz hR
    have hin : i = its.size := by omega
    subst hin
    refine codeAny_builtin F.entry_sum_loop ?_
    rw [Around.under_plainId F.plain_sum_loop _]
    show wpAny _ A.in1 (seqItems? (.ref S) >>= _) _ _ s
    refine wpAny_bind (wpAny_seqItems hS rfl ?_)
    show wpAny _ A.in1 (tryCatch (pyNext (.ref I)) _ >>= _) _ _ s
    refine wpAny_bind (wpAny_tryCatch (W.done s _ _ ⟨hit, hl⟩ fun h' tk kp => ?_))
    refine wpAny_pure (hR { s with heap := h', toks := tk } tot n ?_ (.inl rfl) (fun b o h1 h2 e => kp b o (by simpa using h2) e) rfl rfl rfl)
    simp only [catFrom, List.append_nil]
    exact kp tot _ (by simpa using htI) ht
  | succ k ih =>
    intro i s tot c n acc hk hi hit hl hv hne htS htI hS ht hz hR
    have hlt : i < its.size := by omega
    refine codeAny_builtin F.entry_sum_loop ?_
    rw [Around.under_plainId F.plain_sum_loop _]
    show wpAny _ A.in1 (seqItems? (.ref S) >>= _) _ _ s
    refine wpAny_bind (wpAny_seqItems hS rfl ?_)
    show wpAny _ A.in1 (tryCatch (pyNext (.ref I)) _ >>= _) _ _ s
    refine wpAny_bind (wpAny_tryCatch (wpAny_pyNext_list_item hit hl (x := its[i]) (by simp [hlt]) fun h' hit2 sb => ?_))
    have hP : its[i]? = some its[i] := by simp [hlt]
    have kp : ∀ b o, b ∉ [I] → s.heap.get? b = some o → h'.get? b = some o := fun b o hb e => (sb.2 b (by simpa using hb)).trans e
    have hst : h'.IsListIter I l (i + 1) ∧ h'.IsList l its := ⟨hit2, hl.at fun o e => kp l o (by simpa using hlI) e⟩
    generalize its[i] = v at hP ⊢
    obtain ⟨b, m, rfl, hb⟩ := hv i v hP
    obtain ⟨hbS, hbI⟩ := hne i _ hP
    have hbI' : b ≠ I := fun z => hbI (by rw [z])
    have hbS' : b ≠ S := fun z => hbS (by rw [z])
    have ht' := kp tot _ (by simpa using htI) ht
    have hb' := kp b _ (by simpa using hbI') hb
    have hS' := kp S _ (by simpa using hSI) hS
    show wpAny _ A.in1 ((holding [Value.ref b] (binaryOp .Add (.ref tot) (.ref b))).attempt >>= _) _ _ _
    have hlen : (acc ++ val i).length ≤ sizeLine := by
      simp only [catFrom, List.length_append] at hz ⊢
      omega
    refine wpAny_bind (wpAny_attempt (wpAny_holding (PySem.P.add_list ht' hb' ?_ (by simpa using hlen))))
    have cat : acc.toArray ++ (val i).toArray = (acc ++ val i).toArray := by simp
    rw [cat]
    have sz : S < h'.objs.size := Heap.lt_size hS'
    have nS : S ≠ h'.objs.size := Nat.ne_of_lt sz
    have kp2 : ∀ b o, h'.get? b = some o → (h'.push { cls := .type "list", data := .seq (acc ++ val i).toArray }).get? b = some o := fun b o e => Heap.get?_push_of_some _ e
    have hS2 := kp2 S _ hS'
    show wpAny _ A.in1 (updateSeq S (fun _ => #[.ref h'.objs.size]) >>= _) _ _ _
    refine wpAny_bind (wpAny_updateSeq hS2 rfl ?_)
    have hS3 := Heap.get?_update_self (Obj.mapSeq fun _ => #[Value.ref h'.objs.size]) hS2 rfl
    refine wpAny_bind (wpAny_letGo ?_)
    refine wpAny_bind (wpAny_updateSeq hS3 rfl (wpAny_pure ⟨plainId_quiet F.plain_sum_loop _, ?_⟩))
    have kp3 : ∀ b o, b ≠ S → h'.get? b = some o → (((h'.push { cls := .type "list", data := .seq (acc ++ val i).toArray }).update S (Obj.mapSeq fun _ => #[Value.ref h'.objs.size])).update S (Obj.mapSeq fun _ => #[Value.ref h'.objs.size])).get? b = some o := fun b o hb e =>
      (Heap.get?_update_other _ _ (Ne.symm hb)).trans ((Heap.get?_update_other _ _ (Ne.symm hb)).trans (kp2 b o e))
    have kp4 : ∀ b o, b ≠ S → b ≠ I → s.heap.get? b = some o → (((h'.push { cls := .type "list", data := .seq (acc ++ val i).toArray }).update S (Obj.mapSeq fun _ => #[Value.ref h'.objs.size])).update S (Obj.mapSeq fun _ => #[Value.ref h'.objs.size])).get? b = some o := fun b o h1 h2 e => kp3 b o h1 (kp b o (by simpa using h2) e)
    have nI : h'.objs.size ≠ I := fun z => by
      obtain ⟨o, e, _⟩ := hst.1
      rw [← z] at e
      exact absurd (Heap.lt_size e) (Nat.lt_irrefl _)
    have new1 : s.heap.objs.size ≤ h'.objs.size := Nat.le_of_eq sb.1.symm
    refine ih (i + 1) _ h'.objs.size _ 0 (acc ++ val i) (by omega) hlt (hst.1.at fun o e => kp3 I o (Ne.symm hSI) e) (hst.2.at fun o e => kp3 l o (Ne.symm hSl) e) (fun j v hj => ?_) hne (Ne.symm nS) nI (Heap.get?_update_self _ hS3 rfl) ?_ ?_ fun s' tot' n' a1 a2 a3 a4 a5 a6 => ?_
    · obtain ⟨b, m, rfl, e⟩ := hv j v hj
      obtain ⟨q1, q2⟩ := hne j _ hj
      exact ⟨b, m, rfl, kp4 b _ (fun z => q1 (by rw [z])) (fun z => q2 (by rw [z])) e⟩
    · exact (Heap.get?_update_other _ _ nS).trans ((Heap.get?_update_other _ _ nS).trans (Heap.get?_push_size _ rfl))
    · simpa [catFrom, List.append_assoc] using hz
    · refine hR s' tot' n' (by simpa [catFrom, List.append_assoc] using a1) ?_ (fun b o h1 h2 e => a3 b o h1 h2 (kp4 b o h1 h2 e)) a4 a5 a6
      rcases a2 with z | z
      · exact .inr (by rw [z]; exact new1)
      · refine .inr (Nat.le_trans new1 (Nat.le_trans ?_ z))
        show h'.objs.size ≤ ((((h'.push _).update S _).update S _).objs.size)
        rw [Heap.size_update, Heap.size_update, Heap.size_push]
        exact Nat.le_succ _
theorem args_sum2 (a b : Value) : argsOk "sum" ⟨[a, b], []⟩ := by unfold argsOk; kernel_rfl
theorem call_sum_lists (hh : A.handled = none) {s : Shared} {l b : Addr} {its : Array Value} {val : Nat → List Value} {acc : List Value} {n : Nat} {Q : Value → Shared → Prop} (hl : s.heap.IsList l its) (hv : KeepL its val s.heap) (hb : s.heap.get? b = some { cls := .type "list", data := .seq acc.toArray n })
    (hz : (acc ++ catFrom val 0 its.size).length ≤ sizeLine)
    (h : ∀ s' tot n', s'.heap.get? tot = some { cls := .type "list", data := .seq (acc ++ catFrom val 0 its.size).toArray n' } → (tot = b ∨ s.heap.objs.size ≤ tot) → (∀ b o, s.heap.get? b = some o → s'.heap.get? b = some o) → s'.gens = s.gens → s'.drawn = s.drawn → s'.os = s.os → Q (.ref tot) s') :
    wpAny (model prog w) A (call (.builtin "sum") [.ref l, .ref b]) Q E s := by
  refine call_function_tree F.kind_sum F.plain_sum F.entry_sum (args_sum2 _ _) ?_
  unfold Builtin.«sum»
  simp only [List.length_cons, List.length_nil]
  rw [if_neg (by decide)]
  refine wpAny_bind (wpAny_of_eq (show Builtin.Builtins.bindParams "sum" ["start"] 0 ⟨[Value.ref b], []⟩ = pure [some (Value.ref b)] from rfl) ?_)
  refine wpAny_bind (wpAny_pyIter_list hl ?_)
  have hls : l < s.heap.objs.size := by
    obtain ⟨o, e, _⟩ := hl
    exact Heap.lt_size e
  have hbs : b < s.heap.objs.size := Heap.lt_size hb
  generalize hh1 : s.heap.push { cls := .type "list_iterator", data := .fields #[.ref l, .int 0 0] } = h1
  have k1 : ∀ b o, s.heap.get? b = some o → h1.get? b = some o := fun b o e => by rw [← hh1]; exact Heap.get?_push_of_some _ e
  have z1 : h1.objs.size = s.heap.objs.size + 1 := by rw [← hh1]; exact Heap.size_push _ _
  have hb1 := k1 b _ hb
  have ty : Shared.TypeIs { s with heap := h1 } (.ref b) "list" := ⟨_, hb1, rfl⟩
  refine wpAny_bind (wpAny_pure ?_)
  simp only [List.forIn_cons, List.forIn_nil]
  refine wpAny_bind (wpAny_bind (wpAny_bind (wpAny_isInstance (T := "list") (b := false) ty F.sub_list_str ?_)))
  simp only [Bool.false_eq_true, if_false]
  refine wpAny_pure (wpAny_bind (wpAny_bind (wpAny_isInstance (T := "list") (b := false) ty F.sub_list_bytes ?_)))
  simp only [Bool.false_eq_true, if_false]
  refine wpAny_pure (wpAny_bind (wpAny_bind (wpAny_isInstance (T := "list") (b := false) ty F.sub_list_bytearray ?_)))
  simp only [Bool.false_eq_true, if_false]
  refine wpAny_pure (wpAny_pure ?_)
  refine wpAny_bind (wpAny_newObj_type ?_)
  have kp : ∀ c o, s.heap.get? c = some o → (h1.push { cls := .type "list", data := .seq #[Value.ref b] }).get? c = some o := fun c o e => Heap.get?_push_of_some _ (k1 c o e)
  have ne1 : ∀ {a : Addr}, a < s.heap.objs.size → a ≠ s.heap.objs.size := fun z => Nat.ne_of_lt z
  have ne2 : ∀ {a : Addr}, a < s.heap.objs.size → a ≠ h1.objs.size := fun z => by rw [z1]; exact Nat.ne_of_lt (Nat.lt_succ_of_lt z)
  refine wpAny_pure ⟨plainId_quiet F.plain_sum_loop _, sum_lists_loop hh (l := l) (I := s.heap.objs.size) (S := h1.objs.size) (its := its) (val := val) (ne1 hls) (by rw [z1]; exact Nat.ne_of_gt (Nat.lt_succ_self _)) (fun z => ne2 hls z.symm) its.size 0 _ b 0 n acc (by omega) (Nat.zero_le _)
    ⟨_, Heap.get?_push_of_some _ (by rw [← hh1]; exact Heap.get?_push_size _ rfl), rfl, rfl⟩ (hl.at fun o e => kp l o e) (fun i v hi => ?_) (fun i v hi => ?_) (ne2 hbs) (ne1 hbs) (Heap.get?_push_size _ rfl) (kp b _ hb) hz fun s' tot' n' a1 a2 a3 a4 a5 a6 => ?_⟩
  · obtain ⟨c, m, e1, e2⟩ := hv i v hi
    exact ⟨c, m, e1, kp c _ e2⟩
  · obtain ⟨c, m, e1, e2⟩ := hv i v hi
    have := Heap.lt_size e2
    subst e1
    exact ⟨fun z => by cases z; exact absurd rfl (ne2 this), fun z => by cases z; exact absurd rfl (ne1 this)⟩
  · refine h s' tot' n' a1 ?_ (fun c o e => a3 c o (ne2 (Heap.lt_size e)) (ne1 (Heap.lt_size e)) (kp c o e)) a4 a5 a6
    rcases a2 with z | z
    · exact .inl z
    · refine .inr (Nat.le_trans ?_ z)
      show s.heap.objs.size ≤ (h1.push _).objs.size
      rw [Heap.size_push, z1]
      omega
end

def catL (l : List D) : Option (List D) := match l with
  | [] => some []
  | .lst x :: r => (catL r).map (x ++ ·)
  | _ => none
def cSum2 : C1 := fun l h => match l with
  | [d, .lst e] => (match (lstOf d h).bind catL with | some r => if (e ++ r).length ≤ sizeLine then some (.lst (e ++ r), h) else none | none => none)
  | _ => none
section
variable {X : Cx} {g : Gd}
theorem catL_ok {w : Wd} {H : Hp} {pins : List (Addr × Obj)} {σ : L2.St} {s : Shared} (I : Inv X pins σ H s) (sub : ∀ a o, w.F a = some o → H a = some o) : ∀ {l r : List D} {vs : List V} {us : List Value} (k : Nat) (val0 : Nat → List Value), catL l = some r → Reps g w l vs → Vals vs us →
    ∃ val : Nat → List Value, (∀ i, i < k → val i = val0 i) ∧ (∀ (i : Nat) (v : Value), us[i]? = some v → ∃ b n, v = .ref b ∧ s.heap.get? b = some { cls := .type "list", data := .seq (val (k + i)).toArray n }) ∧ ∃ ws, Vals ws (catFrom val k us.length) ∧ Reps g w r ws
  | [], r, vs, us, k, val0, e, rp, q => by
    simp only [catL, Option.some.injEq] at e
    subst e
    rw [rp.of_nil] at q
    cases q
    exact ⟨val0, fun _ _ => rfl, fun i v z => by simp at z, [], .nil, .nil⟩
  | d :: l, r, vs, us, k, val0, e, rp, q => by
    obtain ⟨v, vs, rfl, r1, r2⟩ := rp.uncons
    cases q with
    | @cons _ u _ us q1 q2 =>
      cases d with
      | lst x =>
        simp only [catL] at e
        cases e2 : catL l with
        | none => rw [e2] at e; cases e
        | some y =>
          rw [e2] at e
          simp only [Option.map_some, Option.some.injEq] at e
          subst e
          simp only [Rep] at r1
          obtain ⟨a, xs, rfl, f, r1⟩ := r1
          cases q1
          obtain ⟨z, its, n, rr, hl, eo⟩ := I.lstM (sub _ _ f)
          obtain ⟨val, h1, h2, ws, h3, h4⟩ := catL_ok I sub (k + 1) (fun i => if i = k then its else val0 i) e2 r2 q2
          have ek : val k = its := by rw [h1 k (Nat.lt_succ_self _)]; simp
          refine ⟨val, fun i hi => ?_, fun i w hw => ?_, xs ++ ws, ?_, r1.append h4⟩
          · rw [h1 i (by omega)]
            simp; omega
          · cases i with
            | zero =>
              simp at hw; subst hw
              exact ⟨a, n, rfl, by rw [Nat.add_zero, ek]; exact eo⟩
            | succ i =>
              obtain ⟨b, m, e3, e4⟩ := h2 i w (by simpa using hw)
              exact ⟨b, m, e3, by rw [show k + (i + 1) = k + 1 + i by omega]; exact e4⟩
          · show Vals _ (catFrom val k (us.length + 1))
            simp only [catFrom]
            rw [ek]
            exact rr.append h3
      | _ => cases e
theorem cm_sum2 (hc : X.calm = true) : CallM X g (.builtin "sum") cSum2 := by
  rintro pins s σ H vs us Q I rs ⟨w, h, l, sh, r, q⟩
  match l with
  | [] => exact q.elim
  | [_] => exact q.elim
  | _ :: _ :: _ :: _ => simp only [cSum2] at q; exact q.elim
  | [d, t] =>
    obtain ⟨v, u, rfl, r1, r2⟩ := r.two
    cases t with
    | lst e =>
      simp only [cSum2] at q
      cases e1 : lstOf d h with
      | none => rw [e1] at q; exact q.elim
      | some l =>
        rw [e1] at q
        simp only [Option.bind_some] at q
        cases e2 : catL l with
        | none => rw [e2] at q; exact q.elim
        | some y =>
          rw [e2] at q
          simp only at q
          split at q
          · rename_i hz
            obtain ⟨a, ws, rfl, f, r3⟩ := lstOf_ok sh r1 e1
            simp only [Rep] at r2
            obtain ⟨b, xs, rfl, fb, r2⟩ := r2
            obtain ⟨u1, u2, rfl, q1, q2⟩ := vals2 rs
            cases q1
            cases q2
            obtain ⟨its, rv, pl, _⟩ := I.list (SqL.of f)
            obtain ⟨_, its2, n2, rr, hl2, eo⟩ := I.lstM (sh.sub _ _ fb)
            obtain ⟨val, _, h2, zs, h3, h4⟩ := catL_ok I sh.sub 0 (fun _ => []) e2 r3 rv
            have hzs : (its2 ++ catFrom val 0 its.length).length ≤ sizeLine := by
              have a1 := rr.length
              have a2 := h3.length
              have a3 := r2.length
              have a4 := h4.length
              simp only [List.length_append] at hz ⊢
              omega
            have esz : its.toArray.size = its.length := by simp
            refine call_sum_lists (I.ok.hd hc) pl.isList (val := val) (fun i v hv => ?_) eo (by rw [esz]; exact hzs) fun s' tot n' a1 a2 a3 a4 a5 a6 => ?_
            · obtain ⟨b, m, e3, e4⟩ := h2 i v (by simpa using hv)
              exact ⟨b, m, e3, by simpa using e4⟩
            · rw [esz] at a1
              obtain ⟨hp, gs, dr, tk, os⟩ := s'
              dsimp only at a1 a3 a4 a5 a6
              subst a4 a5 a6
              rcases a2 with z | z
              · subst z
                have ez := a3 _ _ eo
                rw [a1] at ez
                have e5 : (its2 ++ catFrom val 0 its.length).toArray = its2.toArray := by
                  have := congrArg Obj.data (Option.some.inj ez)
                  have e6 : Data.seq (its2 ++ catFrom val 0 its.length).toArray n' = Data.seq its2.toArray n2 := this
                  exact (Data.seq.inj e6).1
                have e7 : its2 ++ catFrom val 0 its.length = its2 := by simpa using congrArg Array.toList e5
                have e8 : catFrom val 0 its.length = [] := by simpa using e7
                rw [e8] at h3
                cases h3
                have ey : y = [] := by
                  have := h4.length
                  simpa using this
                subst ey
                refine ⟨.ref tot, H, I.kept (t' := tk) a3, rfl, ?_⟩
                refine q w _ H (Le.refl w) sh ?_
                simp only [Rep, List.append_nil]
                exact ⟨tot, xs, rfl, fb, r2⟩
              · have hn : H tot = none := I.hok.fresh z
                refine ⟨.ref tot, upd H tot (.lst (xs ++ zs)), I.laid (t' := tk) a3 z ⟨?_, its2 ++ catFrom val 0 its.length, n', rr.append h3, a1⟩, rfl, ?_⟩
                · have a1 := (rr.append h3).length
                  omega
                have le : Le w (w.add tot (.lst (xs ++ zs))) := Le.add (sh.free hn) _
                refine q _ _ _ le (sh.add _ hn) ?_
                simp only [Rep]
                exact ⟨_, xs ++ zs, rfl, upd_same, Reps.mono le _ (r2.append h4)⟩
          · exact q.elim
    | _ => exact q.elim
def cSumX : C1 := orC cSum cSum2
theorem cm_sumX (hc : X.calm = true) : CallM X g (.builtin "sum") cSumX := cm_or (cm_sum hc) (cm_sum2 hc)
end
end ML
set_option Elab.async false
set_option linter.all false
set_option maxRecDepth 100000
set_option maxHeartbeats 2000000
set_option autoImplicit false
/-! M: set(list of texts or ints), sorted and counted. -/
namespace ML
open PySem PySem.Spec PyProof.Rows L2

/-- a member as a key -/
def keyV (v : Value) : Key := match v with
  | .int k _ => .inl k | .str x _ => .inr x | _ => .inl 0
theorem keyV_of {k : Key} {u : Value} (r : RelV (kV k) u) : keyV u = k := by
  cases k with
  | inl i => obtain ⟨t, rfl⟩ := r; rfl
  | inr x => obtain ⟨t, rfl⟩ := r; rfl
def MemOk (P : Program) (w : World) (e : Int × Value) : Prop := RelV (kV (keyV e.2)) e.2 ∧ e.1 = (mixKind P w).hash (keyV e.2)
/-- at a stands a set with the members L, in its table's order -/
def SetU (P : Program) (w : World) (h : Heap) (a : Addr) (L : List Key) : Prop :=
  ∃ o es ep t, h.get? a = some o ∧ o.ExactSet ∧ o.data = .set es ep t ∧ (∀ e ∈ es.toList, MemOk P w e) ∧ es.toList.map (fun e => keyV e.2) = L ∧ L.Nodup ∧ es.size < scanBound ∧ t.fits es.size = true ∧
    Ris t.place.toList ∧ (w.params.followText "set-order" = true ∨ t.led = true)
section
variable {P : Program} {w : World} {h h' : Heap} {a : Addr} {L : List Key}
theorem SetU.keep (R : SetU P w h a L) (k : ∀ o, h.get? a = some o → h'.get? a = some o) : SetU P w h' a L := by
  obtain ⟨o, es, ep, t, ho, r⟩ := R
  exact ⟨o, es, ep, t, k o ho, r⟩
theorem mem_elems {l : List (Int × Value)} (g : ∀ e ∈ l, MemOk P w e) : ElemsOf (mixKind P w) l := fun e he => ⟨⟨keyV e.2, kV_is (g e he).1, (g e he).2⟩, key_scan (g e he).1⟩
theorem mem_is {e : Int × Value} (g : MemOk P w e) (k : Key) : (mixKind P w).is k e.2 = true ↔ keyV e.2 = k := by
  have me := kV_is (P := P) (w := w) g.1
  exact ⟨fun h => (mixKind P w).inj _ _ _ me h, fun h => h ▸ me⟩
theorem mem_keys {l : List (Int × Value)} (g : ∀ e ∈ l, MemOk P w e) (k : Key) : k ∈ l.map (fun e => keyV e.2) ↔ ∃ e ∈ l, (mixKind P w).is k e.2 = true := by
  rw [List.mem_map]
  exact ⟨fun ⟨e, he, q⟩ => ⟨e, he, (mem_is (g e he) k).2 q⟩, fun ⟨e, he, q⟩ => ⟨e, he, (mem_is (g e he) k).1 q⟩⟩
theorem setU_new (w : World) {h : Heap} : SetU P w (h.push { cls := .type "set", dict := none, data := .set #[] 0 (.fresh 0 0 (!w.params.followText "set-order")) }) h.objs.size [] := by
  refine ⟨_, #[], 0, _, Heap.get?_push_size _ rfl, ⟨rfl, rfl, rfl⟩, rfl, (fun e he => by simp at he), rfl, .nil, by decide, by rfl, .nil, ?_⟩
  cases w.params.followText "set-order" with
  | true => exact .inl rfl
  | false => exact .inr rfl
end
section
variable {P : Program} {w : World} {A : Around} {E : Value → Shared → Prop} {s : Shared} {a : Addr} {L : List Key}
theorem rule_if {b : Bool} {n : String} {s₁ : Shared} {Q : Unit → Shared → Prop} (q : Q () s₁) : wpAny (model P w) A (match b with | true => rule n | false => pure ()) Q E s₁ := by
  cases b
  · exact wpAny_pure q
  · exact wpAny_rule q
theorem setU_store {g : Bool → Sem Unit} (hg : ∀ (b : Bool) (s₁ : Shared) (Q : Unit → Shared → Prop), Q () s₁ → wpAny (model P w) A (g b) Q E s₁)
    {o : Obj} {es es1 : Array (Int × Value)} {ep : Nat} {t t1 : SetTable} (ho : s.heap.get? a = some o) (hx : o.ExactSet) (hd : o.data = .set es ep t) (gd : ∀ e ∈ es1.toList, MemOk P w e) (nd : (es1.toList.map fun e => keyV e.2).Nodup)
    (hb : es1.size < scanBound) (hf : t1.fits es1.size = true) (hr : Ris t1.place.toList) (hl : w.params.followText "set-order" = true ∨ t1.led = true) {dum : Bool} {Q : Option Bool → Shared → Prop}
    (hQ : ∀ h' L', Heap.SameBut a s.heap h' → L'.Perm (es1.toList.map fun e => keyV e.2) → SetU P w h' a L' → Q (some true) { s with heap := h' }) :
    wpAny (model P w) A (do
        storeSet a es1 t1
        if (!dum && t1.tooFull) = true then do
            g (relayAll t1 es1 (SetTable.grown es1.size)).2.2
            storeSet a (relayAll t1 es1 (SetTable.grown es1.size)).1 (relayAll t1 es1 (SetTable.grown es1.size)).2.1
            pure (some true)
          else pure (some true)) Q E s := by
  refine wpAny_bind (wpAny_storeSet_of ho hd ?_ (fits_of_scanBound hb))
  have o1 := store_at (es' := es1) (t' := t1) ho hd
  have k1 := Heap.SameBut.update s.heap a (Obj.putSet es1 t1)
  by_cases full : (!dum && t1.tooFull) = true
  · rw [if_pos full]
    have pm := relayAll_perm t1 es1 (SetTable.grown es1.size)
    have f2 := relayAll_fits t1 es1 (SetTable.grown es1.size)
    have r2 := relayAll_ris t1 es1 (SetTable.grown es1.size)
    have l2 := relayAll_led t1 es1 (SetTable.grown es1.size)
    generalize relayAll t1 es1 (SetTable.grown es1.size) = z at pm f2 r2 l2 ⊢
    obtain ⟨es2, t2, b⟩ := z
    dsimp only at pm f2 r2 l2 ⊢
    have sz : es2.size = es1.size := by simpa using pm.length_eq
    have b2 : es2.size < scanBound := sz ▸ hb
    refine wpAny_bind (hg _ _ _ (wpAny_bind (wpAny_storeSet_of o1 rfl ?_ (fits_of_scanBound b2))))
    refine wpAny_pure (hQ _ (es2.toList.map fun e => keyV e.2) (k1.trans (Heap.SameBut.update _ a _)) (pm.map _) ?_)
    exact ⟨_, es2, _, t2, store_at (es' := es2) (t' := t2) o1 rfl, hx, rfl, fun e he => gd e (pm.mem_iff.mp he), rfl, (pm.map _).nodup_iff.mpr nd, b2, f2, r2, by rw [l2]; exact hl⟩
  · rw [if_neg full]
    exact wpAny_pure (hQ _ _ k1 (List.Perm.refl _) ⟨_, es1, _, t1, o1, hx, rfl, gd, rfl, nd, hb, hf, hr, hl⟩)
def inK (L : List Key) (k : Key) : Bool := L.any fun j => decide (j = k)
theorem inK_iff {L : List Key} {k : Key} : inK L k = true ↔ k ∈ L := by simp [inK]
def addK (L : List Key) (k : Key) : List Key := if inK L k = true then L else k :: L
theorem setU_add {k : Key} {u : Value} {Q : Bool → Shared → Prop} (r : RelV (kV k) u) (R : SetU P w s.heap a L) (room : L.length + 1 < scanBound)
    (hQ : ∀ h' L' b, Heap.SameBut a s.heap h' → L'.Perm (addK L k) → SetU P w h' a L' → Q b { s with heap := h' }) :
    wpAny (model P w) A (setAddHashed a u ((mixKind P w).hash k)) Q E s := by
  obtain ⟨o, es, ep, t, ho, hx, hd, g, rfl, nd, hb, hf, hr, hl⟩ := R
  have key := kV_is (P := P) (w := w) r
  have sc := key_scan r
  have el := mem_elems g
  unfold setAddHashed setAddHashedIn
  refine wpAny_holding (wpAny_bind (wpAny_setState_of ho hd hf ?_))
  dsimp only
  rw [byScan_of sc hb el]
  simp only [↓reduceIte]
  unfold setAddByScan
  refine wpAny_bind (wpAny_bind (wpAny_rule ?_))
  refine wpAny_bind (wpAny_setScan_of key ho hd hf el ?_)
  cases hi : es.toList.findIdx? (fun e => (mixKind P w).is k e.2) with
  | some j =>
    obtain ⟨hj, pj, _⟩ := List.findIdx?_eq_some_iff_getElem.mp hi
    have there : k ∈ es.toList.map fun e => keyV e.2 := (mem_keys (P := P) (w := w) g k).2 ⟨_, List.getElem_mem hj, pj⟩
    refine wpAny_pure (wpAny_pure (hQ s.heap _ _ (Heap.SameBut.refl a s.heap) ?_ ⟨o, es, ep, t, ho, hx, hd, g, rfl, nd, hb, hf, hr, hl⟩))
    rw [addK, if_pos (inK_iff.2 there)]
  | none =>
    have gone : k ∉ es.toList.map fun e => keyV e.2 := fun z => by
      obtain ⟨e, he, q⟩ := (mem_keys (P := P) (w := w) g k).1 z
      have := List.findIdx?_eq_none_iff.mp hi e he
      rw [q] at this
      cases this
    have p0 := layNew_perm t es ((mixKind P w).hash k) u
    have f1 := layNew_fits t es ((mixKind P w).hash k) u
    have r1 := layNew_ris t es ((mixKind P w).hash k) u hr
    have l1 := layNew_led t es ((mixKind P w).hash k) u
    dsimp only
    generalize layNew t es ((mixKind P w).hash k) u = z at p0 f1 r1 l1 ⊢
    obtain ⟨es1, t1, dum, gave⟩ := z
    dsimp only at p0 f1 r1 l1 ⊢
    rw [Array.toList_push] at p0
    have p1 := p0.trans (List.perm_append_singleton _ _)
    have pk : (es1.toList.map fun e => keyV e.2).Perm (k :: es.toList.map fun e => keyV e.2) := by
      have := p1.map fun e => keyV e.2
      simpa [keyV_of r] using this
    have gd : ∀ e ∈ es1.toList, MemOk P w e := fun e he => by
      rcases List.mem_cons.mp (p1.mem_iff.mp he) with z | z
      · subst z
        have ek := keyV_of r
        exact ⟨by rw [ek]; exact r, by rw [ek]⟩
      · exact g e z
    have nd1 : (es1.toList.map fun e => keyV e.2).Nodup := pk.nodup_iff.mpr (List.nodup_cons.mpr ⟨gone, nd⟩)
    have b1 : es1.size < scanBound := by
      have := pk.length_eq
      simp only [List.length_map, List.length_cons, Array.length_toList] at this room
      omega
    have led : w.params.followText "set-order" = true ∨ t1.led = true := by rw [l1]; exact hl
    have fin : ∀ h' L', Heap.SameBut a s.heap h' → L'.Perm (es1.toList.map fun e => keyV e.2) → SetU P w h' a L' → Q true { s with heap := h' } := fun h' L' k1 k2 k3 => hQ h' L' true k1 (by rw [addK, if_neg (fun z => gone (inK_iff.1 z))]; exact k2.trans pk) k3
    refine wpAny_bind (rule_if ?_)
    have fits2 : ∀ b : Bool, (if b = true then t1 else { t1 with plain := false }).fits es1.size = true := fun b => by
      cases b
      · exact SetTable.fits_plain_off f1
      · exact f1
    have ris2 : ∀ b : Bool, Ris (if b = true then t1 else { t1 with plain := false }).place.toList := fun b => by cases b <;> exact r1
    have led2 : ∀ b : Bool, w.params.followText "set-order" = true ∨ (if b = true then t1 else { t1 with plain := false }).led = true := fun b => by cases b <;> exact led
    by_cases pl : t1.plain = true
    · simp only [pl]
      rw [hashByValue_scannable 8 sc]
      refine wpAny_bind (wpAny_bind (wpAny_pure ?_))
      refine wpAny_pure ?_
      refine setU_store ?_ ho hx hd gd nd1 b1 (fits2 _) (ris2 _) (led2 _) ?_
      · exact fun b s₁ Q' q => rule_if q
      · intro h' L' k1 k2 k3
        exact wpAny_pure (fin h' L' k1 k2 k3)
    · simp only [pl]
      refine wpAny_bind (wpAny_bind (wpAny_pure ?_))
      refine wpAny_pure ?_
      refine setU_store ?_ ho hx hd gd nd1 b1 (fits2 true) (ris2 true) (led2 true) ?_
      · exact fun b s₁ Q' q => rule_if q
      · intro h' L' k1 k2 k3
        exact wpAny_pure (fin h' L' k1 k2 k3)
theorem addK_mem {L : List Key} {k j : Key} : j ∈ addK L k ↔ j ∈ L ∨ j = k := by
  unfold addK
  split
  · rename_i h
    have := inK_iff.1 h
    exact ⟨.inl, fun z => z.elim id fun e => e ▸ this⟩
  · rw [List.mem_cons]
    exact Or.comm
theorem addK_len (L : List Key) (k : Key) : (addK L k).length ≤ L.length + 1 := by
  unfold addK
  split
  · omega
  · exact Nat.le_refl _
/-- what stands in the set behind the first i items -/
def TookU (P : Program) (w : World) (h : Heap) (S : Addr) (ks : List Key) (i : Nat) : Prop := ∃ L, SetU P w h S L ∧ (∀ k, k ∈ L ↔ k ∈ ks.take i) ∧ L.length ≤ i
theorem setU_loop (hh : A.handled = none) {l I S : Addr} {its : Array Value} {ks : List Key} (hlI : l ≠ I) (hSI : S ≠ I) (hSl : S ≠ l) (hks : ∀ (i : Nat) (v : Value), its[i]? = some v → ∃ k, ks[i]? = some k ∧ RelV (kV k) v) (few : its.size + 1 < scanBound) :
    ∀ (k i : Nat) (s : Shared) {R : Result → Shared → Prop}, its.size - i = k → i ≤ its.size → s.heap.IsListIter I l i → s.heap.IsList l its → TookU P w s.heap S ks i →
    (∀ s', TookU P w s'.heap S ks its.size → (∀ b o, b ≠ S → b ≠ I → s.heap.get? b = some o → s'.heap.get? b = some o) → s'.gens = s.gens → s'.drawn = s.drawn → s'.os = s.os → R (.ok (.ret .none)) s') →
    codeAny (model P w) A (.builtin "set.update.loop" ⟨[.ref S, .ref I], []⟩) R s := by
  have W := Walks.list (prog := P) (w := w) (A := A.in1) (by simpa using hh) I l hlI its
  intro k
  induction k with
  | zero =>
    intro i s R hk hi hit hl hS hR
    have hin : i = its.size := by omega
    subst hin
    refine codeAny_builtin PyProof.Rows.F.entry_set_update_loop ?_
    rw [Around.under_plainId PyProof.Rows.F.plain_set_update_loop _]
    show wpAny _ A.in1 (pyNext (.ref I) >>= _) _ _ s
    refine wpAny_bind (W.done s _ _ ⟨hit, hl⟩ fun h' tk kp => ?_)
    show wpAny _ A.in1 (ret Value.none) _ _ _
    obtain ⟨L, a1, a2⟩ := hS
    exact wpAny_pure (hR { s with heap := h', toks := tk } ⟨L, a1.keep fun o e => kp S o (by simpa using hSI) e, a2⟩ (fun b o h1 h2 e => kp b o (by simpa using h2) e) rfl rfl rfl)
  | succ k ih =>
    intro i s R hk hi hit hl hS hR
    have hlt : i < its.size := by omega
    refine codeAny_builtin PyProof.Rows.F.entry_set_update_loop ?_
    rw [Around.under_plainId PyProof.Rows.F.plain_set_update_loop _]
    show wpAny _ A.in1 (pyNext (.ref I) >>= _) _ _ s
    refine wpAny_bind (wpAny_pyNext_list_item hit hl (x := its[i]) (by simp [hlt]) fun h' hit2 sb => ?_)
    have hP : its[i]? = some its[i] := by simp [hlt]
    have kp : ∀ b o, b ∉ [I] → s.heap.get? b = some o → h'.get? b = some o := fun b o hb e => (sb.2 b (by simpa using hb)).trans e
    generalize its[i] = v at hP ⊢
    obtain ⟨x, hx, rx⟩ := hks i v hP
    obtain ⟨L, a1, a2, a3⟩ := hS
    have b1 : SetU P w h' S L := a1.keep fun o e => kp S o (by simpa using hSI) e
    show wpAny _ A.in1 (holding [v] (setAdd S v) >>= _) _ _ _
    refine wpAny_bind (wpAny_holding ?_)
    unfold setAdd
    refine wpAny_holding (wpAny_bind ((mixKind P w).pyHash (k := x) (kV_is rx) ?_))
    refine setU_add (s := { s with heap := h', toks := s.toks + 1 }) rx b1 (by omega) fun h2 L2 b kb pm c1 => ?_
    have kp2 : ∀ b o, b ≠ S → b ≠ I → s.heap.get? b = some o → h2.get? b = some o := fun b o q1 q2 e => (kb.2 b q1).trans (kp b o (by simpa using q2) e)
    refine wpAny_pure ⟨plainId_quiet PyProof.Rows.F.plain_set_update_loop _, ih (i + 1) _ (by omega) hlt (hit2.at fun o e => (kb.2 I (Ne.symm hSI)).trans e) (hl.at fun o e => kp2 l o (Ne.symm hSl) hlI e) ⟨L2, c1, fun j => ?_, ?_⟩ fun s' d1 d2 d3 d4 d5 => ?_⟩
    · rw [pm.mem_iff, addK_mem, a2, List.take_add_one, hx]
      simp
    · rw [pm.length_eq]
      have := addK_len L x
      omega
    · exact hR s' d1 (fun b o q1 q2 e => d2 b o q1 q2 (kp2 b o q1 q2 e)) d3 d4 d5
theorem keyed_of {ks : List Key} {its : Array Value} (r : Vals (ks.map kV) its.toList) : ∀ (i : Nat) (v : Value), its[i]? = some v → ∃ k, ks[i]? = some k ∧ RelV (kV k) v := fun i v hv => by
  have hl : ks.length = its.toList.length := by
    have := Vals.length r
    rwa [List.length_map] at this
  have hi : i < its.size := by
    rcases Nat.lt_or_ge i its.size with z | z
    · exact z
    · rw [Array.getElem?_eq_none z] at hv; cases hv
  have hk : i < ks.length := by rw [hl]; simpa using hi
  obtain ⟨u, e1, e2⟩ := Vals.get (i := i) (x := kV ks[i]) r (by simp [hk])
  have e3 : its[i]? = some u := by simpa using e1
  rw [hv] at e3
  cases e3
  exact ⟨ks[i], by simp [hk], e2⟩
abbrev setNew (w : World) (s : Shared) : Shared := { s with heap := s.heap.push { cls := .type "set", dict := none, data := .set #[] 0 (.fresh 0 0 (!w.params.followText "set-order")) } }
set_option maxHeartbeats 4000000 in
theorem call_setU {l : Addr} {its : Array Value} {ks : List Key} {Q : Value → Shared → Prop} (hh : A.handled = none) (hl : s.heap.IsList l its) (hks : Vals (ks.map kV) its.toList) (few : ks.length + 1 < scanBound)
    (h : ∀ (h' : Heap) (tk : Nat) L, SetU P w h' s.heap.objs.size L → (∀ k, k ∈ L ↔ k ∈ ks) → (∀ b o, s.heap.get? b = some o → h'.get? b = some o) → Q (.ref s.heap.objs.size) { s with heap := h', toks := tk }) :
    wpAny (model P w) A (call (.type "set") [.ref l]) Q E s := by
  have ln : ks.length = its.size := by
    have := Vals.length hks
    simpa using this
  obtain ⟨c, tl, hmro⟩ := F.called_set.mro
  have hmade := F.called_set.made
  have hsub := F.called_set.sub
  refine wpAny_call (codeAny_of_tree ?_)
  show wpAny _ _ (callAny (.type "set") _) _ _ _
  refine wpAny_pure ⟨Code.quiet_builtin _ (by decide +kernel), codeAny_builtin F.entry_type_call ?_⟩
  rw [Around.under_plain (weight_type_call_type "set" [.ref l] []) rfl]
  have h1 := F.called_set.notType
  have h2 := F.called_set.canCreate
  have hct := F.typeCall_set_1 (.ref l)
  repeat (any_goals (first | assumption | wp_step))
  refine codeAny_mono (code_set_led1 (.ref l) (E := E) (Q₁ := fun obj s₁ => obj = .ref s.heap.objs.size ∧ s₁ = setNew w s) ⟨rfl, rfl⟩) fun r s₁ hr => ?_
  have hlS : l < s.heap.objs.size := by
    obtain ⟨o, ho, _⟩ := hl
    exact Heap.lt_size ho
  match r with
  | .error e => exact hr
  | .ok (.ret obj) =>
    obtain ⟨rfl, rfl⟩ := hr
    have hS : (setNew w s).heap.get? s.heap.objs.size = some { cls := .type "set", dict := none, data := .set #[] 0 (.fresh 0 0 (!w.params.followText "set-order")) } := Heap.get?_push_size _ rfl
    have hT : Shared.TypeIs (setNew w s) (.ref s.heap.objs.size) "set" := ⟨_, hS, rfl⟩
    have hli := F.called_set.init.lookup
    have hbi := F.called_set.init.bind (.ref s.heap.objs.size)
    repeat (any_goals (first | assumption | wp_step))
    refine codeAny_mono (codeAny_call_builtin (R := wants (fun r s₂ => r = .none ∧ Q (.ref s.heap.objs.size) s₂) E) F.called_set.init.plain F.entry_set_init (check_set_init_1 hT ?_)) fun r₂ s₂ hr₂ => ?_
    · have keep : ∀ b o, s.heap.get? b = some o → (setNew w s).heap.get? b = some o := fun b o e => Heap.get?_push_of_some _ e
      have hl1 : (setNew w s).heap.IsList l its := hl.at fun o e => keep l o e
      have z1 : (setNew w s).heap.objs.size = s.heap.objs.size + 1 := Heap.size_push ..
      have hsls := F.sub_list_set
      have hslf := F.sub_list_frozenset
      have hne : (Value.type "list" == Value.type "dict") = false := by decide
      obtain ⟨ol, hol, hcl, nl, hdl⟩ := id hl1
      obtain ⟨ocls, odict, odata, oslots⟩ := ol
      simp only at hcl hdl
      subst hcl; subst hdl
      unfold Builtin.«set.__init__» noKeywords Builtin.Frozenset.updateFrom
      generalize hPI : pyIter = PI
      wp_walk
      subst hPI
      refine wpAny_pyIter_list hl1 (wpAny_bind (wpAny_runValue ?_))
      have a1 : l ≠ (setNew w s).heap.objs.size := by rw [z1]; exact Nat.ne_of_lt (Nat.lt_succ_of_lt hlS)
      have a2 : s.heap.objs.size ≠ (setNew w s).heap.objs.size := by rw [z1]; exact Nat.ne_of_lt (Nat.lt_succ_self _)
      refine setU_loop (by simp [hh]) (l := l) (I := (setNew w s).heap.objs.size) (its := its) (ks := ks) a1 a2 (Nat.ne_of_gt hlS) (keyed_of hks) (by omega) its.size 0 _ (by omega) (Nat.zero_le _)
        ⟨_, Heap.get?_push_size _ rfl, rfl, rfl⟩ (hl1.push _) ⟨[], (setU_new w).keep fun o e => Heap.get?_push_of_some _ e, by simp, Nat.le_refl _⟩ fun s' b1 b2 b3 b4 b5 => ?_
      obtain ⟨h', gs, dr, tk, os⟩ := s'
      dsimp only at b1 b2 b3 b4 b5
      subst b3 b4 b5
      obtain ⟨L, c1, c2, _⟩ := b1
      refine wpAny_pure (wpAny_pure ⟨rfl, h h' tk L c1 (fun k => by rw [c2, List.take_of_length_le (Nat.le_of_eq ln)]) fun b o e => ?_⟩)
      have hb := Heap.lt_size e
      exact b2 b o (Nat.ne_of_lt hb) (by rw [z1]; exact Nat.ne_of_lt (Nat.lt_succ_of_lt hb)) (Heap.get?_push_of_some _ (keep b o e))
    · match r₂ with
      | .error e => exact hr₂
      | .ok (.ret r) =>
        obtain ⟨rfl, q⟩ := hr₂
        repeat (any_goals (first | assumption | wp_step))
      | .ok .brk => exact hr₂.elim
      | .ok .cont => exact hr₂.elim
  | .ok .brk => exact hr.elim
  | .ok .cont => exact hr.elim
end
end ML
set_option Elab.async false
set_option linter.all false
set_option maxRecDepth 100000
set_option maxHeartbeats 2000000
set_option autoImplicit false
/-! M: sorted(set(list)), len(set(list)). -/
namespace ML
open PySem PySem.Spec PyProof.Rows L2

section
variable {α : Type} [DecidableEq α]
/-- each member once -/
def dd : List α → List α
  | [] => []
  | k :: r => if k ∈ r then dd r else k :: dd r
theorem dd_mem {j : α} : ∀ {l : List α}, j ∈ dd l ↔ j ∈ l
  | [] => Iff.rfl
  | k :: r => by
    unfold dd
    split
    · rename_i h
      rw [dd_mem, List.mem_cons]
      exact ⟨.inr, fun z => z.elim (fun e => e ▸ h) id⟩
    · rw [List.mem_cons, dd_mem, List.mem_cons]
theorem dd_nodup : ∀ {l : List α}, (dd l).Nodup
  | [] => .nil
  | k :: r => by
    unfold dd
    split
    · exact dd_nodup
    · rename_i h
      exact List.nodup_cons.mpr ⟨fun z => h (dd_mem.1 z), dd_nodup⟩
theorem dd_perm {l L : List α} (nd : L.Nodup) (h : ∀ k, k ∈ L ↔ k ∈ l) : L.Perm (dd l) := (List.perm_ext_iff_of_nodup nd dd_nodup).2 fun k => (h k).trans dd_mem.symm
end
theorem le_str (a b : Str) : PySem.W.dataLe false py (.str a) (.str b) = sle a b := by
  simp [PySem.W.dataLe, PySem.W.sortLe, py, PySem.W.keyToks, PyProof.Rows.lexLt, itemLt, sle, slt, PyProof.Rows.strKind]
theorem le_int (a b : Int) : PySem.W.dataLe false py (.int a) (.int b) = decide (a ≤ b) := by
  simp [PySem.W.dataLe, PySem.W.sortLe, py, PySem.W.keyToks, PyProof.Rows.lexLt, itemLt]
  by_cases h : a ≤ b
  · simp [h]
  · simp [h]; omega
theorem dataLe_trans (a b c : D) (h1 : PySem.W.dataLe false py a b = true) (h2 : PySem.W.dataLe false py b c = true) : PySem.W.dataLe false py a c = true := (PySem.W.sortLe_total _ _ _).trans a b c h1 h2
theorem dataLe_total (a b : D) : (PySem.W.dataLe false py a b || PySem.W.dataLe false py b a) = true := Bool.or_eq_true_iff.mpr ((PySem.W.sortLe_total _ _ _).total a b)
theorem sortD_perm (l : List D) : (sortD l).Perm l := List.mergeSort_perm _ _
theorem sortD_pairwise (l : List D) : (sortD l).Pairwise (fun a b => PySem.W.dataLe false py a b = true) := List.pairwise_mergeSort (le := PySem.W.dataLe false py) dataLe_trans dataLe_total l
theorem sortS_pw (l : List Str) : (sortS l).Pairwise (fun a b => sle a b = true) := List.pairwise_mergeSort (le := sle) (fun a b c => sle_trans) sle_total l
theorem sortI_pw (l : List Int) : (sortI l).Pairwise (fun a b => decide (a ≤ b) = true) := List.pairwise_mergeSort (fun a b c h1 h2 => by simp at *; omega) (fun a b => by simp; omega) l
theorem sortD_str {l l' : List Str} (h : l.Perm l') : sortD (l.map .str) = (sortS l').map .str := by
  refine ((sortD_perm _).trans ((h.trans (List.mergeSort_perm _ _).symm).map _)).eq_of_pairwise (fun a b ha hb h1 h2 => ?_) (sortD_pairwise _) (List.pairwise_map.mpr ((sortS_pw l').imp fun {a b} h => (le_str a b).trans h))
  obtain ⟨x, _, rfl⟩ := List.mem_map.mp ((sortD_perm _).mem_iff.mp ha)
  obtain ⟨y, _, rfl⟩ := List.mem_map.mp hb
  rw [le_str] at h1 h2
  rw [sle_antisymm h1 h2]
theorem sortD_int {l l' : List Int} (h : l.Perm l') : sortD (l.map .int) = (sortI l').map .int := by
  refine ((sortD_perm _).trans ((h.trans (List.mergeSort_perm _ _).symm).map _)).eq_of_pairwise (fun a b ha hb h1 h2 => ?_) (sortD_pairwise _) (List.pairwise_map.mpr ((sortI_pw l').imp fun {a b} h => (le_int a b).trans h))
  obtain ⟨x, _, rfl⟩ := List.mem_map.mp ((sortD_perm _).mem_iff.mp ha)
  obtain ⟨y, _, rfl⟩ := List.mem_map.mp hb
  rw [le_int, decide_eq_true_eq] at h1 h2
  rw [Int.le_antisymm h1 h2]

section
variable {P : Program} {w : World} {A : Around} {E : Value → Shared → Prop} {s : Shared} {a : Addr} {L : List Key}
/-- sorted(set), b: what the members are -/
theorem call_sortedU {R : Value → D → Prop} {Q : Value → Shared → Prop} (S : SetU P w s.heap a L) (hh : A.handled = none) (hu : A.units + 64 < cLine)
    (hL : ∀ us : List Value, (us.map keyV).Perm L → (∀ u ∈ us, RelV (kV (keyV u)) u) → ∃ bs, PySem.W.EachIs R us bs ∧ PySem.W.EachIs (fun v b => ∀ h, Reads h v (py b) []) us bs ∧ alikeB bs = true ∧ sortB bs = true ∧ (∀ b ∈ bs, (py b).depth ≤ 60) ∧ ∀ out : List Value, PySem.W.EachIs R out (sortD bs) → ∀ s' p c, (∀ b o, s.heap.get? b = some o → s'.heap.get? b = some o) → s'.gens = s.gens → s'.os = s.os → s.heap.objs.size ≤ p → s'.heap.get? p = some (seqObj "list" out.toArray c) → Q (.ref p) s') :
    wpAny (model P w) A (call (.builtin "sorted") [.ref a]) Q E s := by
  obtain ⟨o, es, ep, t, ho, hx, hd, g, hk, nd, hb, hf, hr, hl⟩ := S
  refine Calls.call_function_entry kind_sorted plain_sorted entry_sorted (args_sorted1 _) ?_
  unfold Builtin.«sorted»
  refine wpAny_bind (m := checkCount "sorted" 1 1 _) (wpAny_pure ?_)
  refine wpAny_bind (collect_set (A := A.in1) hh ⟨o, ho, hx.1, hd⟩ hf hb hr hl fun s1 vs k1 hz g1 o1 pm => ?_)
  have p1 : (vs.map keyV).Perm L := by
    have := pm.map keyV
    rw [List.map_map] at this
    rw [← hk]
    exact this
  have gv : ∀ u ∈ vs, RelV (kV (keyV u)) u := fun u hu => by
    obtain ⟨e, he, q⟩ := List.mem_map.mp (pm.mem_iff.mp hu)
    rw [← q]
    exact (g e he).1
  obtain ⟨bs, e1, e2, e3, e4, e5, fin⟩ := hL vs p1 gv
  have hvl : vs.length < 4096 := by
    rw [pm.length_eq, List.length_map, Array.length_toList]
    exact hb
  refine wpAny_bind (wpAny_newList ?_ (by rw [sizeLine_eq]; omega))
  have hoL : (s1.heap.push (seqObj "list" vs.toArray 0)).get? s1.heap.objs.size = some (seqObj "list" vs.toArray 0) := Heap.get?_push_size _ rfl
  refine wpAny_bind (wpAny_holding (PySem.W.list_sort_data (enc := py) hoL e1 (e2.mono fun v b q => ⟨[], q _, by simp⟩) (alikeB_ok e3) (sortB_ok e4) (by rw [← e1.length, sizeLine_eq]; omega) (fun b hb => ?_) fun out ol oe => ?_))
  · have := e5 b hb
    have hu' : A.in1.units ≤ A.units + 1 := Nat.le_refl _
    omega
  · obtain ⟨c, hc⟩ := sortedHeap_at (vs := vs) (out := out.toArray) hoL
    refine wpAny_pure ⟨_, rfl, fin out oe _ s1.heap.objs.size c (fun b u e => ?_) g1 o1 hz hc⟩
    have q := k1 b u e
    have hlt := Heap.lt_size q
    show (sortedHeap (s1.heap.push (seqObj "list" vs.toArray 0)) s1.heap.objs.size vs out.toArray).get? b = some u
    rw [sortedHeap_old (Nat.ne_of_lt hlt) (by rw [size_push']; exact Nat.lt_succ_of_lt hlt)]
    exact Heap.get?_push_of_some _ q
end

/-! ### readings -/
def SetUO (P : Program) (w : World) (a : Addr) (L : List Key) : HO := .ext fun h => SetU P w h a L
theorem setUO_ok {P : Program} {w : World} {H : Hp} {h : Heap} {a : Addr} {L : List Key} (R : SetU P w h a L) : ObjOk P w H h a (SetUO P w a L) := by
  have ⟨o, _, _, _, ho, _⟩ := R
  exact ⟨R, ⟨o, ho⟩, fun h1 h2 p k => p.keep k⟩
def rSetU (K : PySem.W.Frag) (P : Program) (w : World) : List V → Hp → VK → Prop := fun xs H Q => ∃ (l : Addr) (ks : List Key), xs = [V.ref l] ∧ SqL K H l (ks.map kV) ∧ ks.length + 1 < scanBound ∧
  ∀ a L, H a = none → (∀ k, k ∈ L ↔ k ∈ ks) → L.Nodup → Q (.ref a) (upd H a (SetUO P w a L))
def rSortedU (P : Program) (w : World) : List V → Hp → VK → Prop := fun xs H Q => ∃ (a : Addr) (L : List Key), xs = [V.ref a] ∧ H a = some (SetUO P w a L) ∧
  ((∃ ys, L = ys.map Sum.inr ∧ ∀ p, H p = none → Q (.ref p) (upd H p (.lst ((sortS ys).map V.str)))) ∨ (∃ ns, L = ns.map Sum.inl ∧ ∀ p, H p = none → Q (.ref p) (upd H p (.lst ((sortI ns).map V.int)))))
def rLenU (P : Program) (w : World) : List V → Hp → VK → Prop := fun xs H Q => ∃ (a : Addr) (L : List Key), xs = [V.ref a] ∧ H a = some (SetUO P w a L) ∧ Q (.int L.length) H
def unR (k : Key) : Str := match k with | .inr x => x | .inl _ => ⟨#[]⟩
def unL (k : Key) : Int := match k with | .inl x => x | .inr _ => 0
theorem each_self {α β : Type} {R : α → β → Prop} (f : α → β) : ∀ {l : List α}, (∀ u ∈ l, R u (f u)) → PySem.W.EachIs R l (l.map f)
  | [], _ => .nil
  | u :: l, h => .cons (h u List.mem_cons_self) (each_self f fun v hv => h v (List.mem_cons_of_mem _ hv))
theorem each_vals {α : Type} {R : Value → D → Prop} {f : α → D} {v : α → V} (h : ∀ u x, R u (f x) → RelV (v x) u) : ∀ {out : List Value} {l : List α}, PySem.W.EachIs R out (l.map f) → Vals (l.map v) out
  | _, [], e => by cases e; exact .nil
  | _, x :: l, e => by
    cases e with
    | cons e1 e2 => exact .cons (h _ _ e1) (each_vals h e2)
section
variable {X : Cx}
theorem cr_setU (hc : X.calm = true) : CallR X (.type "set") (rSetU X.K X.prog X.w) := by
  intro pins s σ H xs us Q I r h
  obtain ⟨l, ks, rfl, hl, few, q⟩ := h
  rw [Vals.ref1 r]
  obtain ⟨its, rv, pl, hz⟩ := I.list hl
  refine call_setU (I.ok.hd hc) pl.isList (by simpa using rv) few fun h' tk L R hm k => ?_
  have nd : L.Nodup := by
    obtain ⟨_, _, _, _, _, _, _, _, _, nd, _⟩ := R
    exact nd
  exact ⟨.ref s.heap.objs.size, upd H s.heap.objs.size (SetUO X.prog X.w s.heap.objs.size L), I.laid (t' := tk) k (Nat.le_refl _) (setUO_ok R), rfl, q _ L (I.hok.fresh (Nat.le_refl _)) hm nd⟩
theorem cr_lenU : CallR X (.builtin "len") (rLenU X.prog X.w) := by
  intro pins s σ H xs us Q I r h
  obtain ⟨a, L, rfl, ha, q⟩ := h
  rw [Vals.ref1 r]
  have S : SetU X.prog X.w s.heap a L := (I.hok a _ ha).1
  obtain ⟨o, es, ep, t, ho, hx, hd, g, hk, nd, hb, hf, hr, hl⟩ := S
  have e : L.length = es.size := by rw [← hk]; simp
  refine call_len_set ho hx hd hf (by have : es.size < 4096 := hb; omega) ⟨.int L.length, H, ?_, ⟨_, by rw [e]⟩, q⟩
  exact I.kept fun _ _ z => z
theorem cr_sortedU (hc : X.calm = true) (hu : X.A.units + 64 < cLine) : CallR X (.builtin "sorted") (rSortedU X.prog X.w) := by
  intro pins s σ H xs us Q I r h
  obtain ⟨a, L, rfl, ha, q⟩ := h
  rw [Vals.ref1 r]
  have S : SetU X.prog X.w s.heap a L := (I.hok a _ ha).1
  have back : ∀ (s' : Shared) (p : Addr) (out : List Value) (c : Nat) (vs : List V), (∀ b o, s.heap.get? b = some o → s'.heap.get? b = some o) → s'.gens = s.gens → s'.os = s.os → s.heap.objs.size ≤ p → s'.heap.get? p = some (seqObj "list" out.toArray c) → Vals vs out → vs.length ≤ sizeLine → (H p = none → Q (.ref p) (upd H p (.lst vs))) → EP X pins σ Q (.ref p) s' := fun s' p out c vs k g o hp hg hv hz q => by
    obtain ⟨hp', gs, dr, tk, os⟩ := s'
    dsimp only at k g o hg
    subst g o
    have hn : H p = none := I.hok.fresh hp
    have J : Inv X pins σ (upd H p (.lst vs)) { s with heap := hp', drawn := dr, toks := tk } := I.call (ch := []) (Un.laid k hp hn) (I.hok.laid k hp ⟨hz, out, c, hv, hg⟩) I.bare (fun _ z => nomatch z)
    exact ⟨.ref p, _, J, rfl, q hn⟩
  have hlen : L.length < 4096 := by
    obtain ⟨o, es, ep, t, ho, hx, hd, g, hk, nd, hb, hf, hr, hl⟩ := S
    have : es.size < 4096 := hb
    rw [← hk]
    simpa using this
  rcases q with ⟨ys, rfl, q⟩ | ⟨ns, rfl, q⟩
  · refine call_sortedU (R := fun v b => ∃ x, b = .str x ∧ RelV (.str x) v) S (I.ok.hd hc) hu fun us pm gv => ?_
    have each : ∀ u ∈ us, RelV (.str (unR (keyV u))) u := fun u hm => by
      have h1 := gv u hm
      obtain ⟨y, _, e⟩ := List.mem_map.mp (pm.mem_iff.mp (List.mem_map_of_mem hm))
      rw [← e] at h1 ⊢
      exact h1
    have pm2 : (us.map fun u => unR (keyV u)).Perm ys := by
      have := pm.map unR
      rw [List.map_map, List.map_map] at this
      have e : (unR ∘ Sum.inr : Str → Str) = id := rfl
      rw [e, List.map_id] at this
      exact this
    refine ⟨us.map fun u => .str (unR (keyV u)), each_self (fun u => D.str (unR (keyV u))) fun u hm => ⟨_, rfl, each u hm⟩, each_self (fun u => D.str (unR (keyV u))) fun u hm h => ?_, ?_, ?_, fun b hb => ?_, fun out oe s' p c k g o hp hg => ?_⟩
    · obtain ⟨t, e⟩ := each u hm
      rw [e]
      exact Reads.str _ t
    · simp [alikeB, py, PySem.W.alike]
    · simp [sortB, noTupB]
    · obtain ⟨u, _, rfl⟩ := List.mem_map.mp hb
      simp [py, PyData.depth]
    · have e : (us.map fun u => D.str (unR (keyV u))) = (us.map fun u => unR (keyV u)).map .str := by rw [List.map_map]; rfl
      rw [e, sortD_str pm2] at oe
      refine back s' p out c _ k g o hp hg (each_vals (v := V.str) (fun u x ⟨y, e1, e2⟩ => by cases e1; exact e2) oe) ?_ (q p)
      have := (List.mergeSort_perm ys sle).length_eq
      simp only [List.length_map] at hlen ⊢
      unfold sortS
      rw [sizeLine_eq]; omega
  · refine call_sortedU (R := fun v b => ∃ x, b = .int x ∧ RelV (.int x) v) S (I.ok.hd hc) hu fun us pm gv => ?_
    have each : ∀ u ∈ us, RelV (.int (unL (keyV u))) u := fun u hm => by
      have h1 := gv u hm
      obtain ⟨y, _, e⟩ := List.mem_map.mp (pm.mem_iff.mp (List.mem_map_of_mem hm))
      rw [← e] at h1 ⊢
      exact h1
    have pm2 : (us.map fun u => unL (keyV u)).Perm ns := by
      have := pm.map unL
      rw [List.map_map, List.map_map] at this
      have e : (unL ∘ Sum.inl : Int → Int) = id := rfl
      rw [e, List.map_id] at this
      exact this
    refine ⟨us.map fun u => .int (unL (keyV u)), each_self (fun u => D.int (unL (keyV u))) fun u hm => ⟨_, rfl, each u hm⟩, each_self (fun u => D.int (unL (keyV u))) fun u hm h => ?_, ?_, ?_, fun b hb => ?_, fun out oe s' p c k g o hp hg => ?_⟩
    · obtain ⟨t, e⟩ := each u hm
      rw [e]
      exact Reads.int _ t
    · simp [alikeB, py, PySem.W.alike]
    · simp [sortB, noTupB]
    · obtain ⟨u, _, rfl⟩ := List.mem_map.mp hb
      simp [py, PyData.depth]
    · have e : (us.map fun u => D.int (unL (keyV u))) = (us.map fun u => unL (keyV u)).map .int := by rw [List.map_map]; rfl
      rw [e, sortD_int pm2] at oe
      refine back s' p out c _ k g o hp hg (each_vals (v := V.int) (fun u x ⟨y, e1, e2⟩ => by cases e1; exact e2) oe) ?_ (q p)
      have := (List.mergeSort_perm ns fun a b => decide (a ≤ b)).length_eq
      simp only [List.length_map] at hlen ⊢
      unfold sortI
      rw [sizeLine_eq]; omega
end

theorem unR_of {L : List Key} {xs : List Str} (nd : L.Nodup) (hm : ∀ k, k ∈ L ↔ k ∈ xs.map Sum.inr) : L = (L.map unR).map Sum.inr ∧ (L.map unR).Perm (dd xs) := by
  have el : L = (L.map unR).map Sum.inr := by
    rw [List.map_map]
    refine (List.map_id L).symm.trans (List.map_congr_left fun k hk => ?_)
    obtain ⟨x, _, rfl⟩ := List.mem_map.mp ((hm k).1 hk)
    rfl
  have mem : ∀ {l : List Str} {x : Str}, (Sum.inr x : Key) ∈ l.map Sum.inr ↔ x ∈ l := fun {l x} => by
    rw [List.mem_map]
    exact ⟨fun ⟨y, h, e⟩ => by cases e; exact h, fun h => ⟨x, h, rfl⟩⟩
  refine ⟨el, dd_perm ?_ fun x => ?_⟩
  · rw [el] at nd
    exact (List.pairwise_map.mp nd).imp fun h e => h (congrArg _ e)
  · rw [← mem, ← el, hm, mem]
theorem unL_of {L : List Key} {xs : List Int} (nd : L.Nodup) (hm : ∀ k, k ∈ L ↔ k ∈ xs.map Sum.inl) : L = (L.map unL).map Sum.inl ∧ (L.map unL).Perm (dd xs) := by
  have el : L = (L.map unL).map Sum.inl := by
    rw [List.map_map]
    refine (List.map_id L).symm.trans (List.map_congr_left fun k hk => ?_)
    obtain ⟨x, _, rfl⟩ := List.mem_map.mp ((hm k).1 hk)
    rfl
  have mem : ∀ {l : List Int} {x : Int}, (Sum.inl x : Key) ∈ l.map Sum.inl ↔ x ∈ l := fun {l x} => by
    rw [List.mem_map]
    exact ⟨fun ⟨y, h, e⟩ => by cases e; exact h, fun h => ⟨x, h, rfl⟩⟩
  refine ⟨el, dd_perm ?_ fun x => ?_⟩
  · rw [el] at nd
    exact (List.pairwise_map.mp nd).imp fun h e => h (congrArg _ e)
  · rw [← mem, ← el, hm, mem]
theorem sortS_perm {l l' : List Str} (h : l.Perm l') : sortS l = sortS l' :=
  ((List.mergeSort_perm _ _).trans (h.trans (List.mergeSort_perm _ _).symm)).eq_of_pairwise (fun a b _ _ h1 h2 => sle_antisymm h1 h2) (sortS_pw l) (sortS_pw l')
theorem sortI_perm {l l' : List Int} (h : l.Perm l') : sortI l = sortI l' :=
  ((List.mergeSort_perm _ _).trans (h.trans (List.mergeSort_perm _ _).symm)).eq_of_pairwise (fun a b _ _ h1 h2 => by simp at h1 h2; omega) (sortI_pw l) (sortI_pw l')
/-! ### rules -/
def keyD (k : Key) : D := match k with | .inl i => .int i | .inr x => .str x
def keyD? (d : D) : Option Key := match d with | .int i => some (.inl i) | .str x => some (.inr x) | _ => none
def keysD : List D → Option (List Key)
  | [] => some []
  | d :: r => (keyD? d).bind fun k => (keysD r).map (k :: ·)
def keyInts : List Key → Option (List Int)
  | [] => some []
  | .inl x :: r => (keyInts r).map (x :: ·)
  | _ => none
theorem keyInts_ok : ∀ {ks : List Key} {l : List Int}, keyInts ks = some l → ks = l.map Sum.inl
  | [], l, e => by simp only [keyInts, Option.some.injEq] at e; subst e; rfl
  | .inl x :: r, l, e => by
    simp only [keyInts] at e
    cases e2 : keyInts r with
    | none => rw [e2] at e; cases e
    | some l' =>
      rw [e2] at e
      simp only [Option.map_some, Option.some.injEq] at e
      subst e
      rw [keyInts_ok e2]; rfl
  | .inr _ :: _, _, e => by cases e
section
variable {g : Gd}
theorem keysD_ok {w : Wd} : ∀ {l : List D} {ks : List Key} {vs : List V}, keysD l = some ks → Reps g w l vs → vs = ks.map kV
  | [], ks, vs, e, r => by
    simp only [keysD, Option.some.injEq] at e
    subst e
    exact r.of_nil
  | d :: l, ks, vs, e, r => by
    obtain ⟨v, vs, rfl, r1, r2⟩ := r.uncons
    simp only [keysD] at e
    cases e1 : keyD? d with
    | none => rw [e1] at e; cases e
    | some k =>
      cases e2 : keysD l with
      | none => rw [e1, e2] at e; cases e
      | some ks' =>
        rw [e1, e2] at e
        simp only [Option.bind_some, Option.map_some, Option.some.injEq] at e
        subst e
        rw [keysD_ok e2 r2]
        cases d <;> simp only [keyD?, reduceCtorEq, Option.some.injEq] at e1 <;> subst e1 <;> simp only [Rep] at r1 <;> subst r1 <;> rfl
end
/-- sorted(set(l)) -/
def sortedU (ks : List Key) : Option (List D) := match keyStrs ks with
  | some xs => some ((sortS (dd xs)).map .str)
  | none => match keyInts ks with | some ns => some ((sortI (dd ns)).map .int) | none => none
def cSortedU : C1 := fun l h => match l with
  | [d] => (match (lstOf d h).bind keysD with | some ks => if ks.length + 1 < scanBound then (match sortedU ks with | some r => some (.lst r, h) | none => none) else none | none => none)
  | _ => none
def cLenU : C1 := fun l h => match l with
  | [d] => (match (lstOf d h).bind keysD with | some ks => if ks.length + 1 < scanBound then some (.int (dd ks).length, h) else none | none => none)
  | _ => none

theorem PostV.mono {g : Gd} {w w' : Wd} {r : Vr} {Q : VK} (l : Le w w') (q : PostV g w r Q) : PostV g w' r Q := by
  cases r with
  | none => exact q
  | some z => exact fun w2 v H' l2 s r => q w2 v H' (l.trans l2) s r
section
variable {X : Cx} {g : Gd} {W : WX} {p : Pn} {pos pp pos2 pp2 : Pos} {e : Expr} {ma : MA}
theorem me_ofSet {bid : String} {f : Str} {r : List V → Hp → VK → Prop} {m : C1} (hc : X.calm = true) (ho : CallR X (.builtin bid) r) (hv : bootBuiltins f = some (.builtin bid)) (hm : X.mg f = none) (hm2 : X.mg "set" = none) (ha : PA X [e] (RdA g W p ma))
    (how : ∀ (w : Wd) (h : MH) (H : Hp) (l : List D) (vs : List V) (Q : VK), SimH g w h H → Reps g w l vs → PostV g w (m l h) Q → rSetU X.K X.prog X.w vs H fun x H1 => r [x] H1 Q)
    (hg : Gl X f) (hg2 : Gl X "set") (hn : f ≠ "__name__") (hdb : (f == ("__debug__" : Str)) = false)
    (he : starEach [e] X.env = (false, eval e X.env) :: starEach [] X.env) (he2 : starEach [.Call (.Name "set" pp2) [e] [] pos2] X.env = (false, eval (.Call (.Name "set" pp2) [e] [] pos2) X.env) :: starEach [] X.env)
    (hpl : (backTo pos2 (starEach [] X.env)).any (·.1) = false) (hpl2 : (backTo pos (starEach [] X.env)).any (·.1) = false) :
    PE X (.Call (.Name f pp) [.Call (.Name "set" pp2) [e] [] pos2] [] pos) (RdE g W p (mCB m ma)) := by
  refine PE.imp (pe_callB ho hg hm hv (pa_cons (pe_callTy (cr_setU hc) hg2 hm2 (show bootBuiltins "set" = some (.type "set") from rfl) ha (by decide) (by decide) he hpl) pa_nil he2) hn hdb he2 hpl2) fun σ H Q ⟨w, ds, h, s, q⟩ => ?_
  refine RdG.mk s (PostG.bind s q fun w1 l h1 vs H1 l1 s1 r1 q1 => ?_)
  exact how w1 h1 H1 l vs Q s1.h r1 (PostV.of q1)
theorem me_sortedSet (hc : X.calm = true) (hk : X.K = g.K) (hu : X.A.units + 64 < cLine) (hm : X.mg "sorted" = none) (hm2 : X.mg "set" = none) (ha : PA X [e] (RdA g W p ma))
    (hg : Gl X "sorted" := by rfl) (hg2 : Gl X "set" := by rfl)
    (he : starEach [e] X.env = (false, eval e X.env) :: starEach [] X.env := by rfl) (he2 : starEach [.Call (.Name "set" pp2) [e] [] pos2] X.env = (false, eval (.Call (.Name "set" pp2) [e] [] pos2) X.env) :: starEach [] X.env := by rfl)
    (hpl : (backTo pos2 (starEach [] X.env)).any (·.1) = false := by rfl) (hpl2 : (backTo pos (starEach [] X.env)).any (·.1) = false := by rfl) :
    PE X (.Call (.Name "sorted" pp) [.Call (.Name "set" pp2) [e] [] pos2] [] pos) (RdE g W p (mCB cSortedU ma)) := by
  refine me_ofSet hc (cr_sortedU hc hu) rfl hm hm2 ha (fun w h H l vs Q sh r q => ?_) hg hg2 (by decide) (by decide) he he2 hpl hpl2
  match l with
  | [] => exact q.elim
  | _ :: _ :: _ => exact q.elim
  | [d] =>
    obtain ⟨v, rfl, r1⟩ := r.one
    simp only [cSortedU] at q
    cases e1 : lstOf d h with
    | none => rw [e1] at q; exact q.elim
    | some l =>
      rw [e1] at q
      simp only [Option.bind_some] at q
      cases e2 : keysD l with
      | none => rw [e2] at q; exact q.elim
      | some ks =>
        rw [e2] at q
        simp only at q
        split at q
        · rename_i few
          obtain ⟨a, ws, rfl, f, r2⟩ := lstOf_ok sh r1 e1
          rw [keysD_ok e2 r2] at f
          rw [hk]
          refine ⟨a, ks, rfl, SqL.of f, few, fun b L hn hm nd => ⟨b, L, rfl, upd_same, ?_⟩⟩
          have sh' : SimH g (w.add b (SetUO X.prog X.w b L)) h (upd H b (SetUO X.prog X.w b L)) := sh.add _ hn (by intro ps z; cases z)
          have le : Le w (w.add b (SetUO X.prog X.w b L)) := Le.add (sh.free hn) _
          unfold sortedU at q
          cases e3 : keyStrs ks with
          | some xs =>
            rw [e3] at q
            simp only at q
            have ek := keyStrs_ok e3
            subst ek
            obtain ⟨el, pm⟩ := unR_of nd hm
            refine .inl ⟨L.map unR, el, fun p hp => ?_⟩
            rw [sortS_perm pm]
            exact PostV.lst (PostV.mono le q) sh' (rep_strs _) p hp
          | none =>
            rw [e3] at q
            simp only at q
            cases e4 : keyInts ks with
            | none => rw [e4] at q; exact q.elim
            | some xs =>
              rw [e4] at q
              simp only at q
              have ek := keyInts_ok e4
              subst ek
              obtain ⟨el, pm⟩ := unL_of nd hm
              refine .inr ⟨L.map unL, el, fun p hp => ?_⟩
              rw [sortI_perm pm]
              exact PostV.lst (PostV.mono le q) sh' (rep_ints _) p hp
        · exact q.elim
theorem me_lenSet (hc : X.calm = true) (hk : X.K = g.K) (hm : X.mg "len" = none) (hm2 : X.mg "set" = none) (ha : PA X [e] (RdA g W p ma))
    (hg : Gl X "len" := by rfl) (hg2 : Gl X "set" := by rfl)
    (he : starEach [e] X.env = (false, eval e X.env) :: starEach [] X.env := by rfl) (he2 : starEach [.Call (.Name "set" pp2) [e] [] pos2] X.env = (false, eval (.Call (.Name "set" pp2) [e] [] pos2) X.env) :: starEach [] X.env := by rfl)
    (hpl : (backTo pos2 (starEach [] X.env)).any (·.1) = false := by rfl) (hpl2 : (backTo pos (starEach [] X.env)).any (·.1) = false := by rfl) :
    PE X (.Call (.Name "len" pp) [.Call (.Name "set" pp2) [e] [] pos2] [] pos) (RdE g W p (mCB cLenU ma)) := by
  refine me_ofSet hc cr_lenU rfl hm hm2 ha (fun w h H l vs Q sh r q => ?_) hg hg2 (by decide) (by decide) he he2 hpl hpl2
  match l with
  | [] => exact q.elim
  | _ :: _ :: _ => exact q.elim
  | [d] =>
    obtain ⟨v, rfl, r1⟩ := r.one
    simp only [cLenU] at q
    cases e1 : lstOf d h with
    | none => rw [e1] at q; exact q.elim
    | some l =>
      rw [e1] at q
      simp only [Option.bind_some] at q
      cases e2 : keysD l with
      | none => rw [e2] at q; exact q.elim
      | some ks =>
        rw [e2] at q
        simp only at q
        split at q
        · rename_i few
          obtain ⟨a, ws, rfl, f, r2⟩ := lstOf_ok sh r1 e1
          rw [keysD_ok e2 r2] at f
          rw [hk]
          refine ⟨a, ks, rfl, SqL.of f, few, fun b L hn hm nd => ⟨b, L, rfl, upd_same, ?_⟩⟩
          have sh' : SimH g (w.add b (SetUO X.prog X.w b L)) h (upd H b (SetUO X.prog X.w b L)) := sh.add _ hn (by intro ps z; cases z)
          have le : Le w (w.add b (SetUO X.prog X.w b L)) := Le.add (sh.free hn) _
          rw [(dd_perm nd hm).length_eq]
          exact PostV.here (PostV.mono le q) sh' (rep_int _)
        · exact q.elim
end
end ML
set_option Elab.async false
set_option linter.all false
set_option maxRecDepth 100000
set_option maxHeartbeats 2000000
set_option autoImplicit false
/-! M: comprehensions of any kind, with one for or more: the loops, the block. -/
namespace ML
open PySem PySem.Spec PyProof.Rows L2

abbrev no0 : Value → Shared → Prop := fun _ _ => False
/-- what is done behind the tests, nothing raised -/
abbrev CB := Around → Env → Addr → (Shared → Prop) → Shared → Prop
/-- the loop of E's k-th for, B behind its tests -/
def LoopOk (P : Program) (w : World) (E : Expr) (k : Nat) (tg : Expr) (ifs : List Expr) (B : CB) : Prop :=
  ∀ {A : Around} {R : Result → Shared → Prop} {env : Env} {it D : Addr} (I : Nat → Shared → Prop),
    (∀ n s, I n s → wpAny (model P w) A (pyNext (.ref it)) (fun r s1 => match r with
      | none => R (.ok .next) s1
      | some v => wpAny (model P w) A (letOwnedTupleGo tg (.ref it) v) (fun _ s2 => wpAny (model P w) A (assign tg env v) (fun _ s3 =>
          wpAny (model P w) A (forIn ifs true fun c r => if r = true then do let ok ← isTrue c env (eval c env); pure (ForInStep.yield ok) else pure (ForInStep.yield r)) (fun ok s4 =>
            if ok = true then B A env D (fun s5 => ∃ m, m < n ∧ I m s5) s4 else ∃ m, m < n ∧ I m s4) no0 s3) no0 s2) no0 s1) no0 s) →
    ∀ n s, I n s → codeAny (model P w) A (.compLoop E k (.ref it) (.ref D) env) R s
/-- the tests, one after another -/
abbrev ifsR (ifs : List Expr) (env : Env) : Sem Bool := forIn ifs true fun c r => if r = true then do let ok ← isTrue c env (eval c env); pure (ForInStep.yield ok) else pure (ForInStep.yield r)

section
variable {P : Program} {w : World}
def cbDict (P : Program) (w : World) (kx vx : Expr) : CB := fun A env D Q s => wpAny (model P w) A (eval kx env) (fun u s1 => wpAny (model P w) A (eval vx env) (fun v s2 => wpAny (model P w) A (dictSet D u v) (fun _ s3 => Q s3) no0 s2) no0 s1) no0 s
def cbList (P : Program) (w : World) (e : Expr) : CB := fun A env D Q s => wpAny (model P w) A (eval e env) (fun u s1 => wpAny (model P w) A (call (.builtin "list.append") [.ref D, u]) (fun _ s2 => Q s2) no0 s1) no0 s
/-- the next for's start -/
def cbFor (P : Program) (w : World) (E : Expr) (k : Nat) (iter : Expr) : CB := fun A env D Q s => wpAny (model P w) A (eval iter env) (fun u s1 => wpAny (model P w) A (pyIter u) (fun v s2 =>
  codeAny (model P w) A (.compStart E k v (.ref D) env) (fun r s3 => match r with | .ok _ => Q s3 | .error _ => False) s2) no0 s1) no0 s
theorem loop_dict (kx vx tg iter : Expr) (ifs : List Expr) (scope : Scope) (pos : Pos) : LoopOk P w (.DictComp kx vx [⟨tg, iter, ifs, 0⟩] scope pos) 0 tg ifs (cbDict P w kx vx) := by
  intro A R env it D I turn n s h
  refine compLoop_anyD I (fun n s hI => ?_) n h
  refine wpAny_mono (turn n s hI) (fun r s1 h1 => ?_) fun _ _ z => z.elim
  cases r with
  | none => exact h1
  | some v =>
    refine wpAny_mono h1 (fun _ s2 h2 => wpAny_mono h2 (fun _ s3 h3 => wpAny_mono h3 (fun ok s4 h4 => ?_) fun _ _ z => z.elim) fun _ _ z => z.elim) fun _ _ z => z.elim
    cases ok with
    | false => exact h4
    | true => exact wpAny_mono h4 (fun u s5 h5 => wpAny_mono h5 (fun v s6 h6 => wpAny_mono h6 (fun _ s7 h7 => h7) fun _ _ z => z.elim) fun _ _ z => z.elim) fun _ _ z => z.elim
theorem turn_dict0 (kx vx t0 i0 : Expr) (f0 : List Expr) (t1 i1 : Expr) (f1 : List Expr) (scope : Scope) (pos : Pos) (it acc : Value) (env : Env) :
    compTurn (.DictComp kx vx [⟨t0, i0, f0, 0⟩, ⟨t1, i1, f1, 0⟩] scope pos) 0 it acc env = (do
      standAt i0.pos
      match ← pyNext it with
      | none => pure (.done .next)
      | some v =>
        letOwnedTupleGo t0 it v
        assign t0 env v
        let mut ok := true
        for c in f0 do
          if ok then ok ← isTrue c env (eval c env)
        if ok then
          let x ← eval i1 env
          standAt i1.pos
          let x ← foldedSetIterable i1 env x
          let _ ← runOwn (.compStart (.DictComp kx vx [⟨t0, i0, f0, 0⟩, ⟨t1, i1, f1, 0⟩] scope pos) 1 (← holding [x] (pyIter x)) acc env) env
        again (.compLoop (.DictComp kx vx [⟨t0, i0, f0, 0⟩, ⟨t1, i1, f1, 0⟩] scope pos) 0 it acc env)) := by rfl
theorem turn_dict1 (kx vx t1 i1 : Expr) (f1 : List Expr) (g0 : Comprehension) (scope : Scope) (pos : Pos) (it : Value) (D : Addr) (env : Env) :
    compTurn (.DictComp kx vx [g0, ⟨t1, i1, f1, 0⟩] scope pos) 1 it (.ref D) env = (do
      standAt i1.pos
      match ← pyNext it with
      | none => pure (.done .next)
      | some v =>
        letOwnedTupleGo t1 it v
        assign t1 env v
        let mut ok := true
        for c in f1 do
          if ok then ok ← isTrue c env (eval c env)
        if ok then
          (do
            let kv ← eval kx env
            let vv ← holding [kv] (eval vx env)
            standAt { kx.pos with endLine := vx.pos.endLine, endCol := vx.pos.endCol }
            holding [kv, vv] (dictSet D kv vv))
        again (.compLoop (.DictComp kx vx [g0, ⟨t1, i1, f1, 0⟩] scope pos) 1 it (.ref D) env)) := by rfl
theorem loop_dict0 (kx vx t0 i0 : Expr) (f0 : List Expr) (t1 i1 : Expr) (f1 : List Expr) (scope : Scope) (pos : Pos) (hs : ∀ env x, foldedSetIterable i1 env x = pure x) :
    LoopOk P w (.DictComp kx vx [⟨t0, i0, f0, 0⟩, ⟨t1, i1, f1, 0⟩] scope pos) 0 t0 f0 (cbFor P w (.DictComp kx vx [⟨t0, i0, f0, 0⟩, ⟨t1, i1, f1, 0⟩] scope pos) 1 i1) := by
  intro A R env it D I turn n s h
  refine codeAny_loop rfl I (fun n s hI => ?_) n h
  show wpAny _ A ((compTurn (.DictComp kx vx [⟨t0, i0, f0, 0⟩, ⟨t1, i1, f1, 0⟩] scope pos) 0 (.ref it) (.ref D) env).onRaise (fun x => do noteFrame x env; theTreesLotGoes x)) _ _ s
  refine wpAny_noted ?_
  rw [turn_dict0]
  refine wpAny_bind (wpAny_standAt (wpAny_bind (wpAny_mono (turn n s hI) (fun r s1 h1 => ?_) fun _ _ z => z.elim)))
  cases r with
  | none => exact wpAny_pure h1
  | some v =>
    refine wpAny_bind (wpAny_mono h1 (fun _ s2 h2 => wpAny_bind (wpAny_mono h2 (fun _ s3 h3 => wpAny_bind (wpAny_mono h3 (fun ok s4 h4 => ?_) fun _ _ z => z.elim)) fun _ _ z => z.elim)) fun _ _ z => z.elim)
    cases ok with
    | false => exact wpAny_pure ⟨rfl, h4⟩
    | true =>
      refine wpAny_bind (wpAny_mono h4 (fun x s5 h5 => ?_) fun _ _ z => z.elim)
      refine wpAny_bind (wpAny_standAt (wpAny_bind (wpAny_of_eq (hs env x) (wpAny_bind (wpAny_holding (wpAny_mono h5 (fun it1 s6 h6 => ?_) fun _ _ z => z.elim))))))
      refine wpAny_bind (wpAny_runOwn ?_)
      rw [Around.mark_none]
      refine codeAny_mono h6 fun r s7 hr => ?_
      cases r with
      | ok f =>
        first
          | exact wpAny_pure ⟨rfl, hr⟩
          | exact wpAny_bind (wpAny_pure (wpAny_pure ⟨rfl, hr⟩))
      | error e => exact hr.elim
theorem loop_dict1 (kx vx t1 i1 : Expr) (f1 : List Expr) (g0 : Comprehension) (scope : Scope) (pos : Pos) : LoopOk P w (.DictComp kx vx [g0, ⟨t1, i1, f1, 0⟩] scope pos) 1 t1 f1 (cbDict P w kx vx) := by
  intro A R env it D I turn n s h
  refine codeAny_loop rfl I (fun n s hI => ?_) n h
  show wpAny _ A ((compTurn (.DictComp kx vx [g0, ⟨t1, i1, f1, 0⟩] scope pos) 1 (.ref it) (.ref D) env).onRaise (fun x => do noteFrame x env; theTreesLotGoes x)) _ _ s
  refine wpAny_noted ?_
  rw [turn_dict1]
  refine wpAny_bind (wpAny_standAt (wpAny_bind (wpAny_mono (turn n s hI) (fun r s1 h1 => ?_) fun _ _ z => z.elim)))
  cases r with
  | none => exact wpAny_pure h1
  | some v =>
    refine wpAny_bind (wpAny_mono h1 (fun _ s2 h2 => wpAny_bind (wpAny_mono h2 (fun _ s3 h3 => wpAny_bind (wpAny_mono h3 (fun ok s4 h4 => ?_) fun _ _ z => z.elim)) fun _ _ z => z.elim)) fun _ _ z => z.elim)
    cases ok with
    | false => exact wpAny_pure ⟨rfl, h4⟩
    | true =>
      exact wpAny_bind (wpAny_bind (wpAny_mono h4 (fun kv s5 h5 => wpAny_bind (wpAny_holding (wpAny_mono h5 (fun vv s6 h6 => wpAny_bind (wpAny_standAt (wpAny_holding (wpAny_mono h6 (fun _ s7 h7 => wpAny_pure ⟨rfl, h7⟩) fun _ _ z => z.elim)))) fun _ _ z => z.elim))) fun _ _ z => z.elim))
/-- a further for's start -/
theorem start_dict1 {A : Around} {R : Result → Shared → Prop} {s : Shared} {kx vx : Expr} {g0 : Comprehension} {t1 i1 : Expr} {f1 : List Expr} {scope : Scope} {pos : Pos} {it acc : Value} {env : Env} (h0 : codeAny (model P w) A (.compLoop (.DictComp kx vx [g0, ⟨t1, i1, f1, 0⟩] scope pos) 1 it acc env) R s)
    (h : wpAny (model P w) A (pyIter it) (fun it' s' => codeAny (model P w) A (.compLoop (.DictComp kx vx [g0, ⟨t1, i1, f1, 0⟩] scope pos) 1 it' acc env) R s') no0 s) : codeAny (model P w) A (.compStart (.DictComp kx vx [g0, ⟨t1, i1, f1, 0⟩] scope pos) 1 it acc env) R s := by
  refine codeAny_of_tree ?_
  show wpAny _ _ ((compStart (.DictComp kx vx [g0, ⟨t1, i1, f1, 0⟩] scope pos) 1 it acc env).onRaise (fun x => do noteFrame x env; standAt theWindowsPlace)) _ _ s
  refine wpAny_notedAt ?_
  unfold compStart
  show wpAny _ _ (ask >>= _) _ _ s
  refine wpAny_bind (wpAny_askSetting (wpAny_ite ?_))
  split
  · first
      | exact wpAny_bind (wpAny_pure (wpAny_pure (And.intro rfl h0)))
      | exact wpAny_pure (And.intro rfl h0)
  · refine wpAny_bind (wpAny_rule ?_)
    show wpAny _ _ (standAt i1.pos >>= _) _ _ s
    exact wpAny_bind (wpAny_standAt (wpAny_bind (wpAny_mono h (fun it' s' h' => wpAny_pure (And.intro rfl h')) fun _ _ z => z.elim)))
end

/-! ### a loop told -/
abbrev TB := L2.St → Hp → (Hp → Prop) → Prop
def LoopT (J : It) (g : TG) (tt : TT) (tb : TB) (vs : List Nat) (σ : L2.St) (H : Hp) (Nx : Hp → Prop) : Prop :=
  ∃ W : Nat → Nat → Hp → Prop, (∃ m, W 0 m H) ∧ ∀ i m H, W i m H → (J.stop i H ∧ Nx H) ∨ (J.go i H ∧ ∃ N1 : Hp → Prop, (∀ H', N1 H' → ∃ m', m' < m ∧ W (i + 1) m' H') ∧
    ∀ x H', J.yld i H x H' → g x (wipe σ vs) H' fun σ2 H2 => wipe σ2 vs = wipe σ vs ∧ tt σ2 H2 fun b H3 => if b = true then tb σ2 H3 N1 else N1 H3)
/-- slots that still know what σ knows beside vs -/
def Knows (vs : List Nat) (σ σ2 : L2.St) : Prop := σ2.length = σ.length ∧ ∀ (j : Nat) v, (wipe σ vs)[j]? = some (some v) → σ2[j]? = some (some v)
theorem Knows.self (vs : List Nat) (σ : L2.St) : Knows vs σ σ := ⟨rfl, fun j v e => (wipe_some e).1⟩
/-- what is done behind the tests, told -/
def BodyOk (Y : Cx) (D : Addr) (vs : List Nat) (tb : TB) (B : CB) : Prop := ∀ (pins : List (Addr × Obj)) (σ : L2.St) (H : Hp) (s : Shared) (Nx : Hp → Prop), Inv Y pins σ H s → tb σ H Nx →
  B Y.A Y.env D (fun s2 => ∃ σ2 H2, Inv Y pins σ2 H2 s2 ∧ Knows vs σ σ2 ∧ Nx H2) s
theorem loop_run {Y : Cx} (hc : Y.calm = true) (hx : Y.xe = no0) {E tg : Expr} {k : Nat} {ifs : List Expr} {B : CB} (L : LoopOk Y.prog Y.w E k tg ifs B) {J : It} {fp : List Addr} {it D : Addr} {tn : Nat → Heap → Prop} (T : Turn Y.prog Y.w Y.K tg J fp it tn) {gt : TG} {tt : TT}
    (pg : PG Y tg gt) (pt : PTs Y ifs tt) {pins : List (Addr × Obj)} {σ : L2.St} {vs vo : List Nat} {tb : TB} (hv : ∀ i ∈ vs, i ∈ vo) (body : BodyOk Y D vs tb B) (mono : ∀ {Q Q' : Shared → Prop} {s : Shared}, (∀ s, Q s → Q' s) → B Y.A Y.env D Q s → B Y.A Y.env D Q' s)
    {H : Hp} {s : Shared} {Nx : Hp → Prop} (turn : LoopT J gt tt tb vs σ H Nx) (I : Inv Y pins (wipe σ vs) H s) (st : tn 0 s.heap) (nf : ∀ b ∈ fp, H b = none) (stat : ∀ {σ' : L2.St} {H' : Hp} {s' : Shared}, Inv Y pins σ' H' s' → (∀ b ∈ fp, H' b = none) → ∀ b ∈ fp, FpOk Y pins H' b)
    {R : Result → Shared → Prop} (fin : ∀ s' H', Inv Y pins (wipe σ vs) H' s' → Nx H' → R (.ok .next) s') : codeAny (model Y.prog Y.w) Y.A (.compLoop E k (.ref it) (.ref D) Y.env) R s := by
  obtain ⟨W, ⟨m0, w0⟩, turn⟩ := turn
  refine L (fun n s' => ∃ i H', Inv Y pins (wipe σ vs) H' s' ∧ tn i s'.heap ∧ (∀ b ∈ fp, H' b = none) ∧ W i n H') ?_ m0 s ⟨0, H, I, st, nf, w0⟩
  rintro n s1 ⟨i, H1, I1, st1, n1, w1⟩
  rcases turn i n H1 w1 with ⟨stop, q⟩ | ⟨go, N1, hN, step⟩
  · refine thnF (T.done Y rfl rfl rfl hc i pins s1 _ H1 no0 I1 (stat I1 n1) st1 stop) fun r s2 ⟨hr, I2⟩ => ?_
    subst hr
    exact fin s2 H1 I2 q
  · refine thnF (T.item Y rfl rfl rfl hc i pins s1 _ H1 no0 I1 (stat I1 n1) st1 go) fun r s2 ⟨u, hr, h2⟩ => ?_
    subst hr
    refine thnF h2 fun _ s3 ⟨x, H3, I3, r3, y3, st3, n3⟩ => ?_
    have I3' := I3.pinned (stat I3 n3) (T.obj _ _ st3)
    have a1 := pg.run _ s3 _ H3 x u _ I3' r3 (step x H3 y3)
    rw [hx] at a1
    refine thnF a1 fun _ s4 ⟨σ4, H4, I4, hw, q4⟩ => ?_
    have a2 := pt.run _ s4 σ4 H4 _ I4 q4
    rw [hx] at a2
    refine thnF a2 fun b s5 ⟨H5, I5, q5⟩ => ?_
    have back : ∀ {σ6 : L2.St} {s6 : Shared} {H6 : Hp}, Inv Y (pins ++ pinsAt fp s3.heap) σ6 H6 s6 → Knows vs σ4 σ6 → N1 H6 → ∃ m, m < n ∧ ∃ i H', Inv Y pins (wipe σ vs) H' s6 ∧ tn i s6.heap ∧ (∀ b ∈ fp, H' b = none) ∧ W i m H' := fun {σ6 s6 H6} I6 kn nx => by
      obtain ⟨m', hm, w'⟩ := hN H6 nx
      have pin' : ∀ b ∈ fp, ∀ o, s3.heap.get? b = some o → s6.heap.get? b = some o ∧ H6 b = none := fun b hb o e =>
        let z := I6.pin (b, o) (List.mem_append_right _ (List.mem_append_right _ (mem_pinsAt hb e)))
        ⟨z.1, z.2.1⟩
      refine ⟨m', hm, i + 1, H6, I6.unpinned.weak ?_ (fun j v e => kn.2 j v (by rw [hw]; exact e)), T.keep _ _ _ st3 fun b hb o e => (pin' b hb o e).1, fun b hb => ?_, w'⟩
      · have := congrArg List.length hw
        rw [wipe_length] at this
        rw [kn.1, ← this]
      · obtain ⟨o, e, _⟩ := T.obj _ _ st3 b hb
        exact (pin' b hb o e).2
    cases b with
    | false =>
      simp only [Bool.false_eq_true, if_false] at q5 ⊢
      exact back I5 (.self vs σ4) q5
    | true =>
      simp only [if_true] at q5 ⊢
      exact mono (fun s6 ⟨σ6, H6, I6, kn, nx⟩ => back I6 kn nx) (body _ σ4 H5 s5 N1 I5 q5)

/-! ### the block -/
/-- a comprehension whose first for is told by LoopT; o0: the new container -/
def tCx (wi : TI) (gt : TG) (tt : TT) (tb : Addr → TB) (o0 : HO) (vs : List Nat) : TE := fun σ H Q => wi σ H fun J H1 => ∀ D, H1 D = none → LoopT J gt tt (tb D) vs σ (upd H1 D o0) fun H2 => Q (.ref D) H2
section
variable {X : Cx} {E tg iter : Expr} {ifs : List Expr} {more : List Comprehension} {scope : Scope} {own : List (Str × Nat)} {pos : Pos} {wi : TI} {gt : TG} {tt : TT} {tb : Addr → TB} {o0 : HO} {B : CB} {new : Sem Value} {ob : Obj}
theorem cx_run {pins : List (Addr × Obj)} {s : Shared} {σ : L2.St} {H : Hp} {Q : VK} (hc : X.calm = true) (hN : X.N.Nodup) (I : Inv X pins σ H s) (hE : clausesOf E = ⟨tg, iter, ifs, 0⟩ :: more) (L : LoopOk X.prog X.w E 0 tg ifs B)
    (mono : ∀ {A : Around} {env : Env} {D : Addr} {Q Q' : Shared → Prop} {s : Shared}, (∀ s, Q s → Q' s) → B A env D Q s → B A env D Q' s)
    (start : ∀ {A : Around} {R : Result → Shared → Prop} {s : Shared} {it acc : Value} {env : Env}, codeAny (model X.prog X.w) A (.compLoop E 0 it acc env) R s → wpAny (model X.prog X.w) A (pyIter it) (fun it' s' => codeAny (model X.prog X.w) A (.compLoop E 0 it' acc env) R s') (notedBy (model X.prog X.w) A env fun x s' => R (.error x) s') s → codeAny (model X.prog X.w) A (.compStart E 0 it acc env) R s)
    (hnew : ∀ {A : Around} {Er : Value → Shared → Prop} {Q : Value → Shared → Prop} {s : Shared}, Q (.ref s.heap.objs.size) { s with heap := s.heap.push ob } → wpAny (model X.prog X.w) A new Q Er s)
    (hob : ∀ (h : Heap) (H : Hp), sysModules < h.objs.size → ObjOk X.prog X.w (upd H h.objs.size o0) (h.push ob) h.objs.size o0)
    (hi : PI X tg iter wi) (ok : BlkOk X.N X.env.scope scope own)
    (hg : ∀ s H C cl fp, PG (Cx.cb X scope s H C cl fp) tg gt) (ht : ∀ s H C cl fp, PTs (Cx.cb X scope s H C cl fp) ifs tt) (hb : ∀ s H C cl fp D, BodyOk (Cx.cb X scope s H C cl fp) D (own.map (·.2)) (tb D) B) (hs : ∀ x, foldedSetIterable iter X.env x = pure x)
    (h : tCx wi gt tt tb o0 (own.map (·.2)) σ H Q) :
    wpAny (model X.prog X.w) X.A (comprehension E scope X.env pos new false (eval iter X.env) none) (EP X pins σ Q) X.xe s := by
  have hfree : ∀ y ∈ scope.names, y.2 = .free → ∃ c, X.env.cells.lookup y.1 = some c := fun y hy e => by
    rcases ok.free y hy e with k | k
    · exact I.ok.has _ (.inl k)
    · exact I.ok.has _ (.inr k)
  refine wpAny_comprehension_free (use := none) hE hs (closure_ok hfree) ok.kind (fun y hy e => by rw [ok.uniq y hy, e])
    (thn (hi.run pins s σ H _ I h) fun xv s1 hx => thn hx fun itv s2 ⟨it, fp, tn, J, H2, e, I2, T, st2, f2, q⟩ => hnew (newEnv_comp ?_))
  subst e
  generalize hD : s2.heap.objs.size = D
  have lp := q D (I2.hok.fresh (Nat.le_of_eq hD))
  generalize hs3 : ({ s2 with heap := s2.heap.push ob } : Shared) = s3
  have h3 : s3.heap = s2.heap.push ob := by rw [← hs3]
  have I3 : Inv X pins σ (upd H2 D o0) s3 := by
    rw [← hs3, ← hD]
    exact I2.laid (t' := s2.toks) (fun b o e => Heap.get?_push_of_some _ e) (Nat.le_refl _) (hob s2.heap H2 I2.big)
  have f3 : ∀ b ∈ fp, FpOk X pins (upd H2 D o0) b ∧ b < s3.heap.objs.size := fun b hb => by
    have hlt : b < s2.heap.objs.size := by
      obtain ⟨o, e, _⟩ := T.obj _ _ st2 b hb
      exact Heap.lt_size e
    refine ⟨⟨?_, (f2 b hb).2⟩, by rw [h3, Heap.size_push]; exact Nat.lt_succ_of_lt hlt⟩
    rw [upd_ne (by rw [← hD]; exact Nat.ne_of_lt hlt)]
    exact (f2 b hb).1
  have st3 : tn 0 s3.heap := T.keep _ _ _ st2 fun b _ o e => by rw [h3]; exact Heap.get?_push_of_some _ e
  have I4 := block_start I3 ok hN f3
  have pg := hg s3 (upd H2 D o0) s3.heap.objs.size (cellsFrom (s3.heap.objs.size + 1) scope.names (cloFrom X.env.cells scope.names [])) fp
  have pt := ht s3 (upd H2 D o0) s3.heap.objs.size (cellsFrom (s3.heap.objs.size + 1) scope.names (cloFrom X.env.cells scope.names [])) fp
  have pb := hb s3 (upd H2 D o0) s3.heap.objs.size (cellsFrom (s3.heap.objs.size + 1) scope.names (cloFrom X.env.cells scope.names [])) fp D
  show codeAny _ _ (.compStart E 0 (.ref it) (.ref D) (compEnvC scope (cellsFrom (s3.heap.objs.size + 1) scope.names (cloFrom X.env.cells scope.names [])) s3.heap.objs.size X.env)) (compPost (model X.prog X.w) X.A X.xe none (EP X pins σ Q) (.ref D) s3.heap.objs.size) { s3 with heap := pushCells (s3.heap.push { cls := .type "dict", data := .dict #[] }) scope.names }
  have cL : (compEnvC scope (cellsFrom (s3.heap.objs.size + 1) scope.names (cloFrom X.env.cells scope.names [])) s3.heap.objs.size X.env).locals = s3.heap.objs.size := rfl
  generalize hs4 : ({ s3 with heap := pushCells (s3.heap.push { cls := .type "dict", data := .dict #[] }) scope.names } : Shared) = s4 at I4 ⊢
  have st4 : tn 0 s4.heap := T.keep _ _ _ st3 fun b _ o e => by rw [← hs4]; exact pushCells_keeps _ _ _ _ (Heap.get?_push_of_some _ e)
  have loop : codeAny (model X.prog X.w) X.A (.compLoop E 0 (.ref it) (.ref D) (compEnvC scope (cellsFrom (s3.heap.objs.size + 1) scope.names (cloFrom X.env.cells scope.names [])) s3.heap.objs.size X.env)) (compPost (model X.prog X.w) X.A X.xe none (EP X pins σ Q) (.ref D) s3.heap.objs.size) s4 := by
    refine loop_run (Y := Cx.cb X scope s3 (upd H2 D o0) s3.heap.objs.size (cellsFrom (s3.heap.objs.size + 1) scope.names (cloFrom X.env.cells scope.names [])) fp) hc rfl L T pg pt (vo := own.map (·.2)) (fun _ h => h) pb mono lp I4 st4 (fun b hb => (f3 b hb).1.1) (fun {σ' H' s'} I' hn b hb => ?_) fun s5 H5 I5 hq => ?_
    · exact ⟨hn b hb, (I'.ok.exf b hb).1, I'.ok.exfs b hb, .inl hb, fun x c e => (I'.ok.exf b hb).2 x c e, fun p hp => absurd (show p ∈ ([] : List (Addr × Obj)) ++ [] from hp) (by simp)⟩
    · have I6 : Inv X pins σ H5 s5 := I3.call' (ch := fp) I5.os I5.base I5.hok I5.bare fun b hb => ⟨(f3 b hb).1.2.2.2.1, (f3 b hb).1.2.1, (f3 b hb).1.2.2.2.2.1, (f3 b hb).1.2.2.2.2.2⟩
      have nC : H5 s3.heap.objs.size = none := I5.free
      obtain ⟨m, hn, _⟩ := I5.loc
      obtain ⟨k0, k1, k2, k3, k4, k5⟩ := I3.fpOk (Nat.le_refl _) nC
      exact ⟨m, hn, fun h'' sb => ⟨.ref D, H5, I6.turned (t' := s5.toks) (fun b o hb e => (sb.2 b hb).trans e) k0 k1 k3 k4 k5, rfl, hq⟩⟩
  exact start loop (T.self X.A 0 _ _ _ st4 loop)
end

/-! ### dict comprehensions -/
def tDk (tk tv : TE) (D : Addr) : TB := fun σ H Nx => tk σ H fun y H1 => tv σ H1 fun z H2 => ∃ kvs k, y = kV k ∧ H2 D = some (.dK kvs) ∧ kvs.length < sizeLine ∧ Nx (upd H2 D (.dK (putK kvs k z)))
/-- for tg in iter if ..: what follows -/
def tFr (wi : TI) (gt : TG) (tt : TT) (vs : List Nat) (tb : TB) : TB := fun σ H Nx => wi σ H fun J H1 => LoopT J gt tt tb vs σ H1 Nx
section
variable {X Y : Cx} {kx vx tg iter tg1 iter1 : Expr} {ifs ifs1 : List Expr} {scope : Scope} {own : List (Str × Nat)} {pos : Pos} {wi wi1 : TI} {gt gt1 : TG} {tt tt1 : TT} {tk tv : TE} {vs : List Nat}
theorem body_dict (hx : Y.xe = no0) {D : Addr} (hk : PE Y kx tk) (hv : PE Y vx tv) : BodyOk Y D vs (tDk tk tv D) (cbDict Y.prog Y.w kx vx) := by
  intro pins σ H s Nx I h
  have a1 := hk.run _ s σ H _ I h
  rw [hx] at a1
  refine thnF a1 fun u s1 ⟨y, H1, I1, r1, q1⟩ => ?_
  have a2 := hv.run _ s1 σ H1 _ I1 q1
  rw [hx] at a2
  refine thnF a2 fun v s2 ⟨z, H2, I2, r2, kvs, k, ek, hD, hz, nx⟩ => ?_
  subst ek
  exact d_dictSet I2 hD hz r1 r2 fun s3 I3 => ⟨σ, _, I3, .self vs σ, nx⟩
theorem cbDict_mono {P : Program} {w : World} {A : Around} {env : Env} {D : Addr} {Q Q' : Shared → Prop} {s : Shared} (f : ∀ s, Q s → Q' s) (h : cbDict P w kx vx A env D Q s) : cbDict P w kx vx A env D Q' s :=
  thn h fun _ _ h => thn h fun _ _ h => thn h fun _ _ h => f _ h
theorem cbFor_mono {P : Program} {w : World} {E : Expr} {k : Nat} {A : Around} {env : Env} {D : Addr} {Q Q' : Shared → Prop} {s : Shared} (f : ∀ s, Q s → Q' s) (h : cbFor P w E k iter A env D Q s) : cbFor P w E k iter A env D Q' s :=
  thn h fun _ _ h => thn h fun _ _ h => codeAny_mono h fun r s h => by
    cases r with
    | ok _ => exact f _ h
    | error _ => exact h
theorem body_for {E : Expr} {k : Nat} {B : CB} {tb : TB} {vs vs1 : List Nat} (hc : Y.calm = true) (hx : Y.xe = no0) {D : Addr} (L : LoopOk Y.prog Y.w E k tg1 ifs1 B) (mono : ∀ {Q Q' : Shared → Prop} {s : Shared}, (∀ s, Q s → Q' s) → B Y.A Y.env D Q s → B Y.A Y.env D Q' s)
    (start : ∀ {R : Result → Shared → Prop} {s : Shared} {it : Value}, codeAny (model Y.prog Y.w) Y.A (.compLoop E k it (.ref D) Y.env) R s → wpAny (model Y.prog Y.w) Y.A (pyIter it) (fun it' s' => codeAny (model Y.prog Y.w) Y.A (.compLoop E k it' (.ref D) Y.env) R s') no0 s → codeAny (model Y.prog Y.w) Y.A (.compStart E k it (.ref D) Y.env) R s)
    (hv : ∀ i ∈ vs1, i ∈ vs) (hi : PI Y tg1 iter1 wi1) (hg : PG Y tg1 gt1) (ht : PTs Y ifs1 tt1) (body : BodyOk Y D vs1 tb B) : BodyOk Y D vs (tFr wi1 gt1 tt1 vs1 tb) (cbFor Y.prog Y.w E k iter1) := by
  intro pins σ H s Nx I h
  have a1 := hi.run pins s σ H _ I h
  rw [hx] at a1
  refine thnF a1 fun xv s1 a2 => thnF a2 fun itv s2 ⟨it, fp, tn, J, H2, e, I2, T, st2, f2, lp⟩ => ?_
  subst e
  have loop : codeAny (model Y.prog Y.w) Y.A (.compLoop E k (.ref it) (.ref D) Y.env) (fun r s3 => match r with | .ok _ => ∃ σ2 H2, Inv Y pins σ2 H2 s3 ∧ Knows vs σ σ2 ∧ Nx H2 | .error _ => False) s2 := by
    refine loop_run hc hx L T hg ht (vo := vs) hv body mono lp (I2.weak (wipe_length _ _) fun j v e => (wipe_some e).1) st2 (fun b hb => (f2 b hb).1) (fun {σ' H' s'} I' hn b hb => ⟨hn b hb, (f2 b hb).2⟩) fun s3 H3 I3 nx => ?_
    refine ⟨_, H3, I3, ⟨wipe_length _ _, fun j v e => ?_⟩, nx⟩
    obtain ⟨e1, e2⟩ := wipe_some e
    rw [wipe_out fun z => e2 (hv j z)]
    exact e1
  exact start loop (T.self Y.A 0 _ _ _ st2 loop)
/-- {k: v for tg in iter if .. for tg1 in iter1 if ..} -/
theorem pe_dc2 {vs1 : List Nat} (hc : X.calm = true) (hN : X.N.Nodup) (hi : PI X tg iter wi) (ok : BlkOk X.N X.env.scope scope own) (hv : ∀ i ∈ vs1, i ∈ own.map (·.2))
    (hg : ∀ s H C cl fp, PG (Cx.cb X scope s H C cl fp) tg gt) (ht : ∀ s H C cl fp, PTs (Cx.cb X scope s H C cl fp) ifs tt)
    (hi1 : ∀ s H C cl fp, PI (Cx.cb X scope s H C cl fp) tg1 iter1 wi1) (hg1 : ∀ s H C cl fp, PG (Cx.cb X scope s H C cl fp) tg1 gt1) (ht1 : ∀ s H C cl fp, PTs (Cx.cb X scope s H C cl fp) ifs1 tt1)
    (hk : ∀ s H C cl fp, PE (Cx.cb X scope s H C cl fp) kx tk) (hx : ∀ s H C cl fp, PE (Cx.cb X scope s H C cl fp) vx tv) (hs : ∀ x, foldedSetIterable iter X.env x = pure x) (hs1 : ∀ env x, foldedSetIterable iter1 env x = pure x) :
    PE X (.DictComp kx vx [⟨tg, iter, ifs, 0⟩, ⟨tg1, iter1, ifs1, 0⟩] scope pos) (tCx wi gt tt (fun D => tFr wi1 gt1 tt1 vs1 (tDk tk tv D)) (.dK []) (own.map (·.2))) := by
  refine ⟨fun pins s σ H Q I h => ?_⟩
  rw [arm_eval_DictComp]
  refine cx_run hc hN I rfl (loop_dict0 _ _ _ _ _ _ _ _ _ _ hs1) cbFor_mono codeAny_compStart_dict (fun h => wpAny_newObj_type h) (fun h H b => dk_empty h b) hi ok hg ht (fun s H C cl fp D => ?_) hs h
  exact body_for (Y := Cx.cb X scope s H C cl fp) hc rfl (loop_dict1 _ _ _ _ _ _ _ _) cbDict_mono (fun h0 h => start_dict1 h0 h) hv (hi1 s H C cl fp) (hg1 s H C cl fp) (ht1 s H C cl fp) (body_dict (Y := Cx.cb X scope s H C cl fp) rfl (hk s H C cl fp) (hx s H C cl fp))
theorem pe_dc1 (hc : X.calm = true) (hN : X.N.Nodup) (hi : PI X tg iter wi) (ok : BlkOk X.N X.env.scope scope own)
    (hg : ∀ s H C cl fp, PG (Cx.cb X scope s H C cl fp) tg gt) (ht : ∀ s H C cl fp, PTs (Cx.cb X scope s H C cl fp) ifs tt)
    (hk : ∀ s H C cl fp, PE (Cx.cb X scope s H C cl fp) kx tk) (hx : ∀ s H C cl fp, PE (Cx.cb X scope s H C cl fp) vx tv) (hs : ∀ x, foldedSetIterable iter X.env x = pure x) :
    PE X (.DictComp kx vx [⟨tg, iter, ifs, 0⟩] scope pos) (tCx wi gt tt (tDk tk tv) (.dK []) (own.map (·.2))) := by
  refine ⟨fun pins s σ H Q I h => ?_⟩
  rw [arm_eval_DictComp]
  refine cx_run hc hN I rfl (loop_dict _ _ _ _ _ _ _) cbDict_mono codeAny_compStart_dict (fun h => wpAny_newObj_type h) (fun h H b => dk_empty h b) hi ok hg ht (fun s H C cl fp D => ?_) hs h
  exact body_dict (Y := Cx.cb X scope s H C cl fp) rfl (hk s H C cl fp) (hx s H C cl fp)
end
end ML
set_option Elab.async false
set_option linter.all false
set_option maxRecDepth 100000
set_option maxHeartbeats 2000000
set_option autoImplicit false
/-! M: comprehensions of any kind, told by plain functions. -/
namespace ML
open PySem PySem.Spec PyProof.Rows L2

/-- how what is gathered lies -/
structure RAc (g : Gd) (α : Type) where
  R : Wd → α → HO → Prop
  mono : ∀ {w w' : Wd} {a : α} {o : HO}, LeF w w' → R w a o → R w' a o
  sto : ∀ {w : Wd} {a : α} {o : HO}, R w a o → Sto o
def racL (g : Gd) : RAc g (List D) := ⟨fun w l o => ∃ us, o = .lst us ∧ Reps g w l us, fun {w w' a o} l ⟨us, e, r⟩ => ⟨us, e, Reps.mono2 l.F l.mu _ r⟩, fun {w a o} ⟨us, e, _⟩ => by subst e; trivial⟩
def racD (g : Gd) : RAc g KD := ⟨fun w l o => ∃ kvs, o = .dK kvs ∧ RepP g w l kvs, fun {w w' a o} l ⟨us, e, r⟩ => ⟨us, e, r.1, Reps.mono2 l.F l.mu _ r.2⟩, fun {w a o} ⟨us, e, _⟩ => by subst e; trivial⟩
abbrev MB (α : Type) := Sl → MH → α → Res α
def cxL {ι α : Type} (ds0 : Sl) (mg : MGx ι) (mt : MT) (mb : MB α) : List ι → MH → α → Res α
  | [], h, a => .ok a h
  | d :: l, h, a => match mg d ds0 h with
    | none => .stuck
    | some (ds1, h1) => (mt ds1 h1).nx.bind fun b h2 => if b then (mb ds1 h2 a).nx.bind fun a1 h3 => cxL ds0 mg mt mb l h3 a1 else cxL ds0 mg mt mb l h2 a
def mFr {ι α : Type} (vs : List Nat) (mi : MI ι) (mg : MGx ι) (mt : MT) (mb : MB α) : MB α := fun ds h a => (mi ds h).nx.bind fun l h1 => cxL (wipeD ds vs) mg mt mb l h1 a
def mDk (mk mv : ME) : MB KD := fun ds h a => (mk ds h).nx.bind fun k h1 => (mv ds h1).nx.bind fun y h2 => match keyOf k with
  | some key => if a.length < sizeLine then .ok (putP a key y) h2 else .stuck
  | none => .stuck
def mEl (me : ME) : MB (List D) := fun ds h a => (me ds h).nx.bind fun y h1 => if a.length < sizeLine then .ok (a ++ [y]) h1 else .stuck
def mCx {ι α : Type} (vs : List Nat) (mi : MI ι) (mg : MGx ι) (mt : MT) (mb : MB α) (a0 : α) (fin : α → D) : ME := fun ds h => (mi ds h).bind fun l h1 => (cxL (wipeD ds vs) mg mt mb l h1 a0).nx.bind fun a h2 => .ok (fin a) h2
section
variable {g : Gd} {α ι : Type} {A : RAc g α} {p : Pn}
theorem PnOk.keep {w w' : Wd} {σ : L2.St} (h : PnOk g w p σ) (l : LeF w w') (lo : ∀ w0, p.lo = some w0 → Le w0 w') : PnOk g w' p σ :=
  ⟨h.sl, fun d fs e => let ⟨fvs, a, b⟩ := h.xi d fs e; ⟨fvs, l.F _ _ a, b.1, Reps.mono2 l.F l.mu _ b.2⟩, lo⟩
theorem SimS.keep {w w' : Wd} {ds : Sl} {σ : L2.St} (l : LeF w w') (h : SimS g w ds σ) : SimS g w' ds σ := ⟨h.1, fun i d e => let ⟨v, e1, r⟩ := h.2 i d e; ⟨v, e1, Rep.mono2 l.F l.mu d r⟩⟩
theorem ItM.keep {R : Wd → Hp → ι → V → Prop} {w w' : Wd} {l : List ι} {J : It} (h : ItM g R w l J) (lw : LeF w w') : ItM g R w' l J :=
  ⟨fun w2 h2 H2 i l2 => h.go w2 h2 H2 i (lw.trans l2), fun w2 h2 H2 l2 => h.stop w2 h2 H2 (lw.trans l2), fun w2 h2 H2 i d x H' l2 => h.yld w2 h2 H2 i d x H' (lw.trans l2)⟩
/-- what is wanted with what has been gathered at C -/
def PostC (A : RAc g α) (C : Addr) (w1 w : Wd) (r : Res α) (Nx : Hp → Prop) : Prop := match r with
  | .ok a h => ∀ w' H' o', Le w1 w' → LeF w w' → SimH g w' h H' → w'.fr C = some o' → A.R w' a o' → Nx H'
  | _ => False
theorem PostC.mono {C : Addr} {w1 w w' : Wd} {r : Res α} {Nx : Hp → Prop} (l : LeF w w') (q : PostC A C w1 w r Nx) : PostC A C w1 w' r Nx := by
  cases r with
  | ok a h => exact fun w2 H' o' l1 l2 => q w2 H' o' l1 (l.trans l2)
  | exc x h => exact q
  | stuck => exact q
theorem PostC.bind {β γ : Type} {C : Addr} {R : Wd → γ → β → Prop} {w1 w : Wd} {ds : Sl} {σ : L2.St} {h : MH} {H : Hp} {r : Res γ} {k : γ → MH → Res α} {Nx : Hp → Prop} {Q : β → Hp → Prop} (s : Sm g w ds σ h H p) (q : PostC A C w1 w (r.nx.bind k) Nx)
    (f : ∀ w3 a h3 v H3, Le w w3 → Sm g w3 ds σ h3 H3 p → R w3 a v → PostC A C w1 w3 (k a h3) Nx → Q v H3) : PostG g R noW w σ r Q := by
  cases r with
  | ok a h' => exact fun w' v H' l s' r => f w' a h' v H' l (s.at_ l s') r (PostC.mono l.f q)
  | exc x h' => exact q.elim
  | stuck => exact q.elim
/-- what is done with an item, told -/
def RdC (A : RAc g α) (p : Pn) (mb : MB α) (C : Addr) : TB := fun σ H Nx => ∃ w1 w ds h a o, w1.fr C = none ∧ (∀ w0, p.lo = some w0 → Le w0 w1) ∧ Le w1 w ∧ Sm g w ds σ h H p ∧ w.fr C = some o ∧ A.R w a o ∧ PostC A C w1 w (mb ds h a) Nx
theorem loopC {R : Wd → Hp → ι → V → Prop} {vs : List Nat} {mg : MGx ι} {mt : MT} {mb : MB α} {J : It} {l : List ι} {C : Addr} {w1 w : Wd} {ds : Sl} {σ : L2.St} {h : MH} {H : Hp} {a : α} {o : HO} {Nx : Hp → Prop} (hpn : (vs.all fun i => p.no i) = true)
    (h0 : w1.fr C = none) (lo : ∀ w0, p.lo = some w0 → Le w0 w1) (lw : Le w1 w) (sm : Sm g w ds σ h H p) (r1 : ItM g R w l J) (hf : w.fr C = some o) (ra : A.R w a o) (q : PostC A C w1 w (cxL (wipeD ds vs) mg mt mb l h a) Nx) :
    LoopT J (RdGt g p R vs mg) (RdT g noW p mt) (RdC A p mb C) vs σ H Nx := by
  refine ⟨fun i m H => m = l.length - i ∧ i ≤ l.length ∧ ∃ w' h' a' o', Le w1 w' ∧ LeF w w' ∧ w'.fr C = some o' ∧ SimH g w' h' H ∧ A.R w' a' o' ∧ PostC A C w1 w' (cxL (wipeD ds vs) mg mt mb (l.drop i) h' a') Nx,
    ⟨_, rfl, Nat.zero_le _, w, h, a, o, lw, (Le.refl w).f, hf, sm.h, ra, q⟩, ?_⟩
  rintro i m H ⟨rfl, hi, w', h', a', o', l1, l2, hf', sh, ra', q'⟩
  by_cases hlt : i < l.length
  · have hd : l[i]? = some l[i] := by simp [hlt]
    have hdr : l.drop i = l[i] :: l.drop (i + 1) := (List.getElem_cons_drop hlt).symm
    refine .inr ⟨r1.go w' h' H i l2 sh hlt, fun H' => ∃ w' h' a' o', Le w1 w' ∧ LeF w w' ∧ w'.fr C = some o' ∧ SimH g w' h' H' ∧ A.R w' a' o' ∧ PostC A C w1 w' (cxL (wipeD ds vs) mg mt mb (l.drop (i + 1)) h' a') Nx,
      fun H' z => ⟨l.length - (i + 1), by omega, rfl, hlt, z⟩, fun x H' y => ?_⟩
    obtain ⟨sh', rx⟩ := r1.yld w' h' H i l[i] x H' l2 sh hd y
    rw [hdr] at q'
    simp only [cxL] at q'
    have sm' : Sm g w' (wipeD ds vs) (wipe σ vs) h' H' p := ⟨(SimS.keep l2 sm.s).wipe vs, sh', (PnOk.keep sm.p l2 fun w0 e => (lo w0 e).trans l1).wipe hpn⟩
    refine ⟨w', wipeD ds vs, h', l[i], sm', rx, ?_⟩
    cases e1 : mg l[i] (wipeD ds vs) h' with
    | none => rw [e1] at q'; exact q'.elim
    | some z =>
      obtain ⟨ds1, h1'⟩ := z
      rw [e1] at q'
      simp only at q'
      intro w2 σ2 H2 k2 s2 ew
      refine ⟨ew.trans wipe_idem, ?_⟩
      refine RdG.mk s2 (PostC.bind s2 (PostC.mono k2.f q') fun w3 b h3 bv H3 k3 s3 rb q3 => ?_)
      subst rb
      have lw3 : Le w1 w3 := l1.trans (k2.trans k3)
      have lf3 : LeF w w3 := l2.trans (k2.trans k3).f
      have hf3 : w3.fr C = some o' := k3.fr _ _ (k2.fr _ _ hf')
      have ra3 : A.R w3 a' o' := A.mono (k2.trans k3).f ra'
      cases b with
      | false =>
        simp only [Bool.false_eq_true, if_false] at q3 ⊢
        exact ⟨w3, h3, a', o', lw3, lf3, hf3, s3.h, ra3, q3⟩
      | true =>
        simp only [if_true] at q3 ⊢
        refine ⟨w1, w3, ds1, h3, a', o', h0, lo, lw3, s3, hf3, ra3, ?_⟩
        cases e2 : mb ds1 h3 a' with
        | ok a4 h4 =>
          rw [e2] at q3
          exact fun w4 H4 o4 x1 x2 x3 x4 x5 => ⟨w4, h4, a4, o4, x1, lf3.trans x2, x4, x3, x5, PostC.mono x2 q3⟩
        | exc x h4 => rw [e2] at q3; exact q3
        | stuck => rw [e2] at q3; exact q3
  · have e : i = l.length := by omega
    subst e
    rw [List.drop_length] at q'
    exact .inl ⟨r1.stop w' h' H l2 sh, q' w' H o' l1 (Le.refl _).f sh hf' ra'⟩
theorem RdC.fr {R : Wd → Hp → ι → V → Prop} {vs : List Nat} {mi : MI ι} {mg : MGx ι} {mt : MT} {mb : MB α} {C : Addr} (hpn : (vs.all fun i => p.no i) = true) {σ : L2.St} {H : Hp} {Nx : Hp → Prop} (h : RdC A p (mFr vs mi mg mt mb) C σ H Nx) :
    tFr (RdI g R noW p mi) (RdGt g p R vs mg) (RdT g noW p mt) vs (RdC A p mb C) σ H Nx := by
  obtain ⟨w1, w, ds, h, a, o, h0, lo, lw, sm, hf, ra, q⟩ := h
  refine RdG.mk sm (PostC.bind sm q fun w3 l h3 J H3 l3 s3 r3 q3 => ?_)
  exact loopC hpn h0 lo (lw.trans l3) s3 r3 (l3.fr _ _ hf) (A.mono l3.f ra) q3
theorem RdC.dk {mk mv : ME} {C : Addr} {σ : L2.St} {H : Hp} {Nx : Hp → Prop} (h : RdC (racD g) p (mDk mk mv) C σ H Nx) : tDk (RdE g noW p mk) (RdE g noW p mv) C σ H Nx := by
  obtain ⟨w1, w, ds, h, a, o, h0, lo, lw, sm, hf, ra, q⟩ := h
  refine RdG.mk sm (PostC.bind sm q fun w3 k h3 kv H3 l3 s3 rk q3 => ?_)
  refine RdG.mk s3 (PostC.bind s3 q3 fun w4 y h4 v H4 l4 s4 ry q4 => ?_)
  cases e : keyOf k with
  | none => rw [e] at q4; exact q4.elim
  | some key =>
    rw [e] at q4
    simp only at q4
    split at q4
    · rename_i hz
      have lw4 : Le w1 w4 := lw.trans (l3.trans l4)
      have hf4 : w4.fr C = some o := (l3.trans l4).fr _ _ hf
      obtain ⟨kvs, rfl, r4⟩ := (racD g).mono (l3.trans l4).f ra
      have ek := keyOf_ok rk e
      have hl : kvs.length = a.length := by
        have := congrArg List.length r4.1
        simpa using this
      refine ⟨kvs, key, ek, s4.h.held hf4, by omega, ?_⟩
      have le' : Le w1 ((w4.unhold w1).hold C (.dK (putK kvs key v))) := ⟨lw4.F, lw4.mu, fun b u e => by
        show upd w1.fr C _ b = some u
        rw [upd_ne (ne_of_none e h0)]; exact e⟩
      refine q4 _ _ (.dK (putK kvs key v)) le' ⟨fun _ _ e => e, fun _ _ e => e⟩ (s4.h.rehold hf4 lw4 h0 _ trivial) upd_same ⟨_, rfl, ?_⟩
      have r5 : RepP g w4 (putP a key y) (putK kvs key v) := RepP.put ry r4
      exact ⟨r5.1, Reps.cast (w := w4) (w' := (w4.unhold w1).hold C (.dK (putK kvs key v))) rfl rfl r5.2⟩
    · exact q4.elim
/-- the whole -/
theorem RdE.cx {R : Wd → Hp → ι → V → Prop} {W : WX} {vs : List Nat} {mi : MI ι} {mg : MGx ι} {mt : MT} {mb : MB α} {a0 : α} {fin : α → D} {o0 : HO} (hpn : (vs.all fun i => p.no i) = true) (h0 : ∀ w, A.R w a0 o0) (hfin : ∀ {w : Wd} {a : α} {o : HO} {C : Addr}, A.R w a o → w.F C = some o → Rep g w (fin a) (.ref C))
    {σ : L2.St} {H : Hp} {Q : VK} (h : RdE g W p (mCx vs mi mg mt mb a0 fin) σ H Q) : tCx (RdI g R W p mi) (RdGt g p R vs mg) (RdT g noW p mt) (RdC A p mb) o0 vs σ H Q := by
  obtain ⟨w, ds, h, s, q⟩ := h
  refine RdG.mk s (PostG.bind s q fun w1 l h1 J H1 l1 s1 r1 q1 => fun C hC => ?_)
  have f1 : w1.fr C = none := by
    cases e : w1.fr C with
    | none => rfl
    | some u => rw [(s1.h.fr C u e).1] at hC; cases hC
  have st : Sto o0 := A.sto (h0 w1)
  have lh : Le w1 (w1.hold C o0) := Le.hold f1 _
  have sh : SimH g (w1.hold C o0) h1 (upd H1 C o0) := s1.h.hold hC st
  refine loopC (w1 := w1) hpn f1 s1.p.lo lh ⟨s1.s.mono lh, sh, s1.p.mono lh⟩ (ItM.keep r1 lh.f) upd_same (h0 _) ?_
  cases e : cxL (wipeD ds vs) mg mt mb l h1 a0 with
  | exc x h2 => rw [e] at q1; exact q1.elim
  | stuck => rw [e] at q1; exact q1.elim
  | ok a h2 =>
    rw [e] at q1
    intro w' H' o' x1 x2 x3 x4 x5
    have le : Le w1 ((w'.unhold w1).add C o') := (Le.unhold x1).trans (Le.add (w := w'.unhold w1) (x3.fr C _ x4).2.1 _)
    refine q1 _ _ H' le (x3.letgo x4 x1 f1) (hfin (A.mono (w := w') ⟨fun b u e => ?_, fun _ _ e => e⟩ x5) upd_same)
    exact (Le.add (w := w'.unhold w1) (x3.fr C _ x4).2.1 o').F b u e
end
section
variable {X : Cx} {g : Gd} {W : WX} {p : Pn} {ι ι1 : Type} {R : Wd → Hp → ι → V → Prop} {R1 : Wd → Hp → ι1 → V → Prop} {kx vx tg iter tg1 iter1 : Expr} {ifs ifs1 : List Expr} {mi : MI ι} {mg : MGx ι} {mi1 : MI ι1} {mg1 : MGx ι1} {mt mt1 : MT} {mk mv : ME} {pos : Pos} {scope : Scope}
theorem fin_dic {w : Wd} {a : KD} {o : HO} {C : Addr} (r : (racD g).R w a o) (f : w.F C = some o) : Rep g w (mkDic a) (.ref C) := by
  obtain ⟨kvs, rfl, r⟩ := r
  simp only [mkDic, Rep]
  exact ⟨C, kvs, rfl, f, r.1, r.2⟩
theorem BodyOk.imp {Y : Cx} {C : Addr} {vs : List Nat} {tb tb' : TB} {B : CB} (h : BodyOk Y C vs tb B) (f : ∀ σ H Nx, tb' σ H Nx → tb σ H Nx) : BodyOk Y C vs tb' B := fun pins σ H s Nx I q => h pins σ H s Nx I (f σ H Nx q)
theorem me_dc2 (own : List (Str × Nat)) (vs1 : List Nat) (hc : X.calm = true) (hN : X.N.Nodup) (hi : PI X tg iter (RdI g R W p mi)) (ok : BlkOk X.N X.env.scope scope own)
    (hg : ∀ s H C cl fp, PG (Cx.cb X scope s H C cl fp) tg (RdGt g p R (own.map (·.2)) mg)) (ht : ∀ s H C cl fp, PTs (Cx.cb X scope s H C cl fp) ifs (RdT g noW p mt))
    (hi1 : ∀ s H C cl fp, PI (Cx.cb X scope s H C cl fp) tg1 iter1 (RdI g R1 noW p mi1)) (hg1 : ∀ s H C cl fp, PG (Cx.cb X scope s H C cl fp) tg1 (RdGt g p R1 vs1 mg1)) (ht1 : ∀ s H C cl fp, PTs (Cx.cb X scope s H C cl fp) ifs1 (RdT g noW p mt1))
    (hk : ∀ s H C cl fp, PE (Cx.cb X scope s H C cl fp) kx (RdE g noW p mk)) (hx : ∀ s H C cl fp, PE (Cx.cb X scope s H C cl fp) vx (RdE g noW p mv))
    (hv : ∀ i ∈ vs1, i ∈ own.map (·.2) := by decide) (hpn : ((own.map (·.2)).all fun i => p.no i) = true := by rfl) (hpn1 : (vs1.all fun i => p.no i) = true := by rfl)
    (hs : ∀ x, foldedSetIterable iter X.env x = pure x := by intro _; rfl) (hs1 : ∀ env x, foldedSetIterable iter1 env x = pure x := by intro _ _; rfl) :
    PE X (.DictComp kx vx [⟨tg, iter, ifs, 0⟩, ⟨tg1, iter1, ifs1, 0⟩] scope pos) (RdE g W p (mCx (own.map (·.2)) mi mg mt (mFr vs1 mi1 mg1 mt1 (mDk mk mv)) [] mkDic)) := by
  refine ⟨fun pins s σ H Q I h => ?_⟩
  rw [arm_eval_DictComp]
  refine cx_run hc hN I rfl (loop_dict0 _ _ _ _ _ _ _ _ _ _ hs1) cbFor_mono codeAny_compStart_dict (fun h => wpAny_newObj_type h) (fun h H b => dk_empty h b) hi ok hg ht (tb := RdC (racD g) p (mFr vs1 mi1 mg1 mt1 (mDk mk mv))) (fun s H C cl fp D => ?_) hs
    (RdE.cx (A := racD g) hpn (fun w => ⟨[], rfl, .nil⟩) fin_dic h)
  exact BodyOk.imp (body_for (Y := Cx.cb X scope s H C cl fp) hc rfl (loop_dict1 _ _ _ _ _ _ _ _) cbDict_mono (fun h0 h => start_dict1 h0 h) hv (hi1 s H C cl fp) (hg1 s H C cl fp) (ht1 s H C cl fp)
    (BodyOk.imp (body_dict (Y := Cx.cb X scope s H C cl fp) rfl (hk s H C cl fp) (hx s H C cl fp)) fun σ H Nx h => RdC.dk h)) fun σ H Nx h => RdC.fr hpn1 h
theorem me_dc1 (own : List (Str × Nat)) (hc : X.calm = true) (hN : X.N.Nodup) (hi : PI X tg iter (RdI g R W p mi)) (ok : BlkOk X.N X.env.scope scope own)
    (hg : ∀ s H C cl fp, PG (Cx.cb X scope s H C cl fp) tg (RdGt g p R (own.map (·.2)) mg)) (ht : ∀ s H C cl fp, PTs (Cx.cb X scope s H C cl fp) ifs (RdT g noW p mt))
    (hk : ∀ s H C cl fp, PE (Cx.cb X scope s H C cl fp) kx (RdE g noW p mk)) (hx : ∀ s H C cl fp, PE (Cx.cb X scope s H C cl fp) vx (RdE g noW p mv))
    (hpn : ((own.map (·.2)).all fun i => p.no i) = true := by rfl) (hs : ∀ x, foldedSetIterable iter X.env x = pure x := by intro _; rfl) :
    PE X (.DictComp kx vx [⟨tg, iter, ifs, 0⟩] scope pos) (RdE g W p (mCx (own.map (·.2)) mi mg mt (mDk mk mv) [] mkDic)) := by
  refine ⟨fun pins s σ H Q I h => ?_⟩
  rw [arm_eval_DictComp]
  refine cx_run hc hN I rfl (loop_dict _ _ _ _ _ _ _) cbDict_mono codeAny_compStart_dict (fun h => wpAny_newObj_type h) (fun h H b => dk_empty h b) hi ok hg ht (tb := RdC (racD g) p (mDk mk mv)) (fun s H C cl fp D => ?_) hs
    (RdE.cx (A := racD g) hpn (fun w => ⟨[], rfl, .nil⟩) fin_dic h)
  exact BodyOk.imp (body_dict (Y := Cx.cb X scope s H C cl fp) rfl (hk s H C cl fp) (hx s H C cl fp)) fun σ H Nx h => RdC.dk h
end
end ML
set_option Elab.async false
set_option linter.all false
set_option maxRecDepth 100000
set_option maxHeartbeats 2000000
set_option autoImplicit false
/-! M: what is walked over, found while it runs; list comprehensions with two fors. -/
namespace ML
open PySem PySem.Spec PyProof.Rows L2

/-- the items of a tuple, a list, a text -/
def itsA (d : D) : Option (List D) := match d with
  | .tup l => some l | .lst l => some l | .scr l => some l | .str x => some (x.cps.toList.map fun c => .str ⟨#[c]⟩) | _ => none
section
variable {X : Cx} {g : Gd} {W : WX} {p : Pn} {e tg : Expr} {m : ME}
theorem mi_any (hk : X.K = g.K) (he : PE X e (RdE g W p m)) : PI X tg e (RdI g (rD g) W p (mItm itsA m)) := by
  refine ⟨fun pins s σ H R I ⟨w, ds, h, sm, q⟩ => ?_⟩
  have go : ∀ its, (mItm its m ds h = mItm itsA m ds h) → PI X tg e (RdI g (rD g) W p (mItm its m)) → wpAny (model X.prog X.w) X.A (eval e X.env) (fun v s1 => wpAny (model X.prog X.w) X.A (pyIter v) (PIE X pins σ tg R) X.xe s1) X.xe s := fun its e h' => h'.run pins s σ H R I ⟨w, ds, h, sm, by rw [e]; exact q⟩
  cases e : m ds h with
  | ok d h1 =>
    cases d with
    | lst l => exact go itsL (by simp [mItm, e, itsL, itsA]) (mi_lst hk he)
    | scr l => exact go itsL (by simp [mItm, e, itsL, itsA]) (mi_lst hk he)
    | str x => exact go itsS (by simp [mItm, e, itsS, itsA]) (mi_str he)
    | _ => exact go itsT (by simp [mItm, e, itsT, itsA]) (mi_tup hk he)
  | exc x h1 => exact go itsT (by simp [mItm, e]) (mi_tup hk he)
  | stuck => exact go itsT (by simp [mItm, e]) (mi_tup hk he)
end
section
variable {P : Program} {w : World}
theorem loop_list0 (elt t0 i0 t1 i1 : Expr) (f0 f1 : List Expr) (scope : Scope) (pos : Pos) (hs : ∀ env x, foldedSetIterable i1 env x = pure x) :
    LoopOk P w (.ListComp elt [⟨t0, i0, f0, 0⟩, ⟨t1, i1, f1, 0⟩] scope pos) 0 t0 f0 (cbFor P w (.ListComp elt [⟨t0, i0, f0, 0⟩, ⟨t1, i1, f1, 0⟩] scope pos) 1 i1) := by
  intro A R env it D I turn n s h
  refine compLoop2_out (hs env) I (fun n s hI => ?_) n h
  refine wpAny_mono (turn n s hI) (fun r s1 h1 => ?_) fun _ _ z => z.elim
  cases r with
  | none => exact h1
  | some v =>
    refine wpAny_mono h1 (fun _ s2 h2 => wpAny_mono h2 (fun _ s3 h3 => wpAny_mono h3 (fun ok s4 h4 => ?_) fun _ _ z => z.elim) fun _ _ z => z.elim) fun _ _ z => z.elim
    cases ok with
    | false => exact h4
    | true => exact wpAny_mono h4 (fun u s5 h5 => wpAny_mono h5 (fun v s6 h6 => h6) fun _ _ z => z.elim) fun _ _ z => z.elim
theorem loop_list1 (elt t0 i0 t1 i1 : Expr) (f0 f1 : List Expr) (scope : Scope) (pos : Pos) : LoopOk P w (.ListComp elt [⟨t0, i0, f0, 0⟩, ⟨t1, i1, f1, 0⟩] scope pos) 1 t1 f1 (cbList P w elt) := by
  intro A R env it D I turn n s h
  refine compLoop2_in I (fun n s hI => ?_) n h
  refine wpAny_mono (turn n s hI) (fun r s1 h1 => ?_) fun _ _ z => z.elim
  cases r with
  | none => exact h1
  | some v =>
    refine wpAny_mono h1 (fun _ s2 h2 => wpAny_mono h2 (fun _ s3 h3 => wpAny_mono h3 (fun ok s4 h4 => ?_) fun _ _ z => z.elim) fun _ _ z => z.elim) fun _ _ z => z.elim
    cases ok with
    | false => exact h4
    | true => exact wpAny_mono h4 (fun u s5 h5 => wpAny_mono h5 (fun v s6 h6 => h6) fun _ _ z => z.elim) fun _ _ z => z.elim
theorem cbList_mono {elt : Expr} {A : Around} {env : Env} {D : Addr} {Q Q' : Shared → Prop} {s : Shared} (f : ∀ s, Q s → Q' s) (h : cbList P w elt A env D Q s) : cbList P w elt A env D Q' s :=
  thn h fun _ _ h => thn h fun _ _ h => f _ h
end
def tEl (te : TE) (C : Addr) : TB := fun σ H Nx => te σ H fun y H1 => ∃ acc, H1 C = some (.lst acc) ∧ acc.length < sizeLine ∧ Nx (upd H1 C (.lst (acc ++ [y])))
theorem body_list {Y : Cx} {elt : Expr} {te : TE} {vs : List Nat} (hx : Y.xe = no0) {C : Addr} (he : PE Y elt te) : BodyOk Y C vs (tEl te C) (cbList Y.prog Y.w elt) := by
  intro pins σ H s Nx I h
  have a1 := he.run _ s σ H _ I h
  rw [hx] at a1
  refine thnF a1 fun u s1 ⟨y, H1, I1, r1, acc, hC, hz, nx⟩ => ?_
  exact app_ok I1 hC hz r1 fun s3 I3 => ⟨σ, _, I3, .self vs σ, nx⟩
theorem RdC.el {g : Gd} {p : Pn} {me : ME} {C : Addr} {σ : L2.St} {H : Hp} {Nx : Hp → Prop} (h : RdC (racL g) p (mEl me) C σ H Nx) : tEl (RdE g noW p me) C σ H Nx := by
  obtain ⟨w1, w, ds, h, a, o, h0, lo, lw, sm, hf, ra, q⟩ := h
  refine RdG.mk sm (PostC.bind sm q fun w4 y h4 v H4 l4 s4 ry q4 => ?_)
  split at q4
  · rename_i hz
    have lw4 : Le w1 w4 := lw.trans l4
    have hf4 : w4.fr C = some o := l4.fr _ _ hf
    obtain ⟨us, rfl, r4⟩ := (racL g).mono l4.f ra
    have hl : a.length = us.length := r4.length
    refine ⟨us, s4.h.held hf4, by omega, ?_⟩
    have le' : Le w1 ((w4.unhold w1).hold C (.lst (us ++ [v]))) := ⟨lw4.F, lw4.mu, fun b u e => by
      show upd w1.fr C _ b = some u
      rw [upd_ne (ne_of_none e h0)]; exact e⟩
    refine q4 _ _ (.lst (us ++ [v])) le' ⟨fun _ _ e => e, fun _ _ e => e⟩ (s4.h.rehold hf4 lw4 h0 _ trivial) upd_same ⟨_, rfl, ?_⟩
    exact Reps.cast (w := w4) (w' := (w4.unhold w1).hold C (.lst (us ++ [v]))) rfl rfl (r4.append (.cons ry .nil))
  · exact q4.elim
section
variable {X : Cx} {g : Gd} {W : WX} {p : Pn} {ι ι1 : Type} {R : Wd → Hp → ι → V → Prop} {R1 : Wd → Hp → ι1 → V → Prop} {elt tg iter tg1 iter1 : Expr} {ifs ifs1 : List Expr} {mi : MI ι} {mg : MGx ι} {mi1 : MI ι1} {mg1 : MGx ι1} {mt mt1 : MT} {me : ME} {pos : Pos} {scope : Scope}
theorem fin_lst {w : Wd} {a : List D} {o : HO} {C : Addr} (r : (racL g).R w a o) (f : w.F C = some o) : Rep g w (.lst a) (.ref C) := by
  obtain ⟨us, rfl, r⟩ := r
  simp only [Rep]
  exact ⟨C, us, rfl, f, r⟩
theorem me_lc2 (own : List (Str × Nat)) (vs1 : List Nat) (hc : X.calm = true) (hN : X.N.Nodup) (hi : PI X tg iter (RdI g R W p mi)) (ok : BlkOk X.N X.env.scope scope own)
    (hg : ∀ s H C cl fp, PG (Cx.cb X scope s H C cl fp) tg (RdGt g p R (own.map (·.2)) mg)) (ht : ∀ s H C cl fp, PTs (Cx.cb X scope s H C cl fp) ifs (RdT g noW p mt))
    (hi1 : ∀ s H C cl fp, PI (Cx.cb X scope s H C cl fp) tg1 iter1 (RdI g R1 noW p mi1)) (hg1 : ∀ s H C cl fp, PG (Cx.cb X scope s H C cl fp) tg1 (RdGt g p R1 vs1 mg1)) (ht1 : ∀ s H C cl fp, PTs (Cx.cb X scope s H C cl fp) ifs1 (RdT g noW p mt1))
    (he : ∀ s H C cl fp, PE (Cx.cb X scope s H C cl fp) elt (RdE g noW p me))
    (hv : ∀ i ∈ vs1, i ∈ own.map (·.2) := by decide) (hpn : ((own.map (·.2)).all fun i => p.no i) = true := by rfl) (hpn1 : (vs1.all fun i => p.no i) = true := by rfl)
    (hs : ∀ x, foldedSetIterable iter X.env x = pure x := by intro _; rfl) (hs1 : ∀ env x, foldedSetIterable iter1 env x = pure x := by intro _ _; rfl) :
    PE X (.ListComp elt [⟨tg, iter, ifs, 0⟩, ⟨tg1, iter1, ifs1, 0⟩] scope pos) (RdE g W p (mCx (own.map (·.2)) mi mg mt (mFr vs1 mi1 mg1 mt1 (mEl me)) [] D.lst)) := by
  refine ⟨fun pins s σ H Q I h => ?_⟩
  rw [eval_ListComp]
  refine cx_run (o0 := .lst []) hc hN I rfl (loop_list0 _ _ _ _ _ _ _ _ _ hs1) cbFor_mono codeAny_compStart_list (fun h => wpAny_newObj_type h (by show 0 ≤ sizeLine; decide)) (fun h H b => ⟨Nat.zero_le _, [], 0, .nil, Heap.get?_push_size _ rfl⟩) hi ok hg ht (tb := RdC (racL g) p (mFr vs1 mi1 mg1 mt1 (mEl me))) (fun s H C cl fp D => ?_) hs
    (RdE.cx (A := racL g) (o0 := .lst []) hpn (fun w => ⟨[], rfl, .nil⟩) fin_lst h)
  exact BodyOk.imp (body_for (Y := Cx.cb X scope s H C cl fp) hc rfl (loop_list1 _ _ _ _ _ _ _ _ _) cbList_mono (fun h0 h => compStart1_ok h0 (wpAny_mono h (fun _ _ z => z) fun _ _ z => z.elim)) hv (hi1 s H C cl fp) (hg1 s H C cl fp) (ht1 s H C cl fp)
    (BodyOk.imp (body_list (Y := Cx.cb X scope s H C cl fp) rfl (he s H C cl fp)) fun σ H Nx h => RdC.el h)) fun σ H Nx h => RdC.fr hpn1 h
end
end ML
set_option Elab.async false
set_option linter.all false
set_option maxRecDepth 100000
set_option autoImplicit false
namespace ML
/-- the class at place n, no class is under it -/
def isOf (n : Nat) : Nat → Option Bool := fun c => if c = n then some true else none
end ML
set_option Elab.async false
set_option linter.all false
set_option maxRecDepth 100000
set_option autoImplicit false
/-! C: the mirrors that several laws share. -/
namespace ML.C
open PySem PySem.Spec PyProof.Rows L2 ML
def f_is_whole : List D → MH → Res D := mFn 1 1 (mRet (mAnd (mCB cIsi (mCons (mVar 0) (mCons (mC (.ty "int")) mNil))) (mNot (mCB cIsi (mCons (mVar 0) (mCons (mC (.ty "bool")) mNil))))))
def f_is_between : List D → MH → Res D := mFn 3 3 (mRet (mAnd (mCall 1 C.f_is_whole (mCons (mVar 0) mNil)) (mChain gLe gLe (mVar 1) (mVar 0) (mVar 2))))
def f_is_tuple_of : List D → MH → Res D := mFn 2 2 (mRet (mAnd (mCB cIsi (mCons (mVar 0) (mCons (mC (.ty "tuple")) mNil))) (mBin gEqX (mCB cLen (mCons (mVar 0) mNil)) (mVar 1))))
def f_is_text_of : List D → MH → Res D := mFn 2 3 (mRet (mAnd (mCB cIsi (mCons (mVar 0) (mCons (mC (.ty "str")) mNil))) (mCB cAll (mCons (mLc [2] (mItm itsA (mVar 0)) (tgName 2) mYes (mBin gIn (mVar 2) (mVar 1))) mNil))))
def f_is_name : List D → MH → Res D := mFn 1 1 (mRet (mAnd (mCall 2 C.f_is_text_of (mCons (mVar 0) (mCons (mC (.str "abcdefghijklmnopqrstuvwxyz")) mNil))) (mChain gLe gLe (mC (.int 1)) (mCB cLen (mCons (mVar 0) mNil)) (mC (.int 8)))))
def f_is_result : List D → MH → Res D := mFn 1 1 (mRet (mAnd (mCall 2 C.f_is_tuple_of (mCons (mVar 0) (mCons (mC (.int 2)) mNil))) (mAnd (mCall 1 C.f_is_name (mCons (mBin gIx (mVar 0) (mC (.int 0))) mNil)) (mCall 3 C.f_is_between (mCons (mBin gIx (mVar 0) (mC (.int 1))) (mCons (mBin gSub (mC (.int 0)) (mC (.int 99))) (mCons (mC (.int 99)) mNil)))))))
def f_is_game : List D → MH → Res D := mFn 1 2 (mSeq (mIfS (mOrT (mNotT (mTr (mCB cIsi (mCons (mVar 0) (mCons (mC (.ty "tuple")) mNil))))) (mNotT (mTb (mChain gLe gLe (mC (.int 1)) (mCB cLen (mCons (mVar 0) mNil)) (mC (.int 8)))))) (mRet (mC (.bl false))) mNext) (mRet (mAnd (mCB cAll (mCons (mLc [1] (mItm itsA (mVar 0)) (tgName 1) mYes (mCall 1 C.f_is_result (mCons (mVar 1) mNil))) mNil)) (mBin gEqX (mCB cLen (mCons (mCB cDict (mCons (mVar 0) mNil)) mNil)) (mCB cLen (mCons (mVar 0) mNil))))))
def f_games_of : List D → MH → Res D := mFn 2 3 (mRet (mLc [2] (mItm itsA (mVar 0)) (tgName 2) (mTb (mBin gIn (mVar 1) (mCB cDict (mCons (mVar 2) mNil)))) (mCB cDict (mCons (mVar 2) mNil))))
def f_total_of : List D → MH → Res D := mFn 2 3 (mRet (mCB cSumX (mCons (mLc [2] (mItm itsA (mCall 2 C.f_games_of (mCons (mVar 0) (mCons (mVar 1) mNil)))) (tgName 2) mYes (mBin gIx (mVar 2) (mVar 1))) mNil)))
def f_wins_of : List D → MH → Res D := mFn 2 3 (mRet (mCB cLen (mCons (mLc [2] (mItm itsA (mCall 2 C.f_games_of (mCons (mVar 0) (mCons (mVar 1) mNil)))) (tgName 2) (mTb (mBin gEqX (mBin gIx (mVar 2) (mVar 1)) (mMaxV (mVar 2)))) (mC (.int 1))) mNil)))
def f_names_in : List D → MH → Res D := mFn 1 4 (mRet (mCB cSortedX (mCons (mCx [1, 2, 3] (mItm itsA (mVar 0)) (tgName 1) mYes (mFr [2, 3] (mItm itsA (mVar 1)) (tgTup 2 (tgCons (tgName 2) (tgCons (tgName 3) tgNil))) mYes (mDk (mVar 2) (mC (.bl true)))) [] mkDic) mNil)))
def f_standing_of : List D → MH → Res D := mFn 1 5 (mSeq (mSet 1 (mLc [2] (mItm itsA (mCall 1 C.f_names_in (mCons (mVar 0) mNil))) (tgName 2) mYes (mTup (mCons (mBin gSub (mC (.int 0)) (mCall 2 C.f_total_of (mCons (mVar 0) (mCons (mVar 2) mNil)))) (mCons (mVar 2) (mCons (mCall 2 C.f_wins_of (mCons (mVar 0) (mCons (mVar 2) mNil))) mNil)))))) (mRet (mLc [3, 2, 4] (mItm itsA (mCB cSortedX (mCons (mVar 1) mNil))) (tgTup 3 (tgCons (tgName 3) (tgCons (tgName 2) (tgCons (tgName 4) tgNil)))) mYes (mTup (mCons (mVar 2) (mCons (mBin gSub (mC (.int 0)) (mVar 3)) (mCons (mVar 4) mNil)))))))
def f_has_beaten : List D → MH → Res D := mFn 3 5 (mSeq (mSet 3 (mLc [4] (mItm itsA (mCall 2 C.f_games_of (mCons (mVar 0) (mCons (mVar 1) mNil)))) (tgName 4) (mTb (mBin gIn (mVar 2) (mVar 4))) (mVar 4))) (mRet (mAnd (mBin gNeX (mVar 1) (mVar 2)) (mAnd (mBin gNeX (mVar 3) (mLst mNil)) (mCB cAll (mCons (mLc [4] (mItm itsA (mVar 3)) (tgName 4) mYes (mBin gGt (mBin gIx (mVar 4) (mVar 1)) (mBin gIx (mVar 4) (mVar 2)))) mNil))))))
def f_Season_init : List D → MH → Res D := mFn 1 1 (mPutFld 45 "kept" (mVar 0) (mTup mNil))
def f_Season_need : List D → MH → Res D := mFn 2 2 (mIfS (mOrT (mNotT (mTr (mCB cIsi (mCons (mVar 1) (mCons (mC (.ty "str")) mNil))))) (mTb (mBin gNotIn (mVar 1) (mCall 1 C.f_names_in (mCons (mFld 45 "kept" (mVar 0)) mNil))))) (mRaise 24 "given" (mVar 1)) mNext)
def f_Season_add : List D → MH → Res D := mFn 2 2 (mSeq (mIfS (mOrT (mNotT (mTr (mCall 1 C.f_is_game (mCons (mVar 1) mNil)))) (mTb (mBin gEqX (mCB cLen (mCons (mFld 45 "kept" (mVar 0)) mNil)) (mC (.int 200))))) (mRaise 18 "given" (mVar 1)) mNext) (mPutFld 45 "kept" (mVar 0) (mBin gAdd (mFld 45 "kept" (mVar 0)) (mTup (mCons (mVar 1) mNil)))))
def f_Season_undo : List D → MH → Res D := mFn 1 1 (mSeq (mIfS (mTb (mBin gEqX (mFld 45 "kept" (mVar 0)) (mTup mNil))) (mRaise 27 "given" (mC (.int 0))) mNext) (mPutFld 45 "kept" (mVar 0) (mSl (mFld 45 "kept" (mVar 0)) mNoPart (mPart (mNeg (mC (.int 1)))))))
def f_Season_total : List D → MH → Res D := mFn 2 2 (mSeq (mExpr (mMeth 45 2 "need" C.f_Season_need (mVar 0) (mCons (mVar 1) mNil))) (mRet (mCall 2 C.f_total_of (mCons (mFld 45 "kept" (mVar 0)) (mCons (mVar 1) mNil)))))
def f_Season_wins : List D → MH → Res D := mFn 2 2 (mSeq (mExpr (mMeth 45 2 "need" C.f_Season_need (mVar 0) (mCons (mVar 1) mNil))) (mRet (mCall 2 C.f_wins_of (mCons (mFld 45 "kept" (mVar 0)) (mCons (mVar 1) mNil)))))
def f_Season_games : List D → MH → Res D := mFn 2 2 (mSeq (mExpr (mMeth 45 2 "need" C.f_Season_need (mVar 0) (mCons (mVar 1) mNil))) (mRet (mCB cLen (mCons (mCall 2 C.f_games_of (mCons (mFld 45 "kept" (mVar 0)) (mCons (mVar 1) mNil))) mNil))))
def f_Season_standing : List D → MH → Res D := mFn 1 1 (mRet (mCB cTuple (mCons (mCall 1 C.f_standing_of (mCons (mFld 45 "kept" (mVar 0)) mNil)) mNil)))
def f_Season_beaten : List D → MH → Res D := mFn 2 3 (mSeq (mExpr (mMeth 45 2 "need" C.f_Season_need (mVar 0) (mCons (mVar 1) mNil))) (mRet (mCB cTuple (mCons (mLc [2] (mItm itsA (mCall 1 C.f_names_in (mCons (mFld 45 "kept" (mVar 0)) mNil))) (tgName 2) (mTr (mCall 3 C.f_has_beaten (mCons (mFld 45 "kept" (mVar 0)) (mCons (mVar 1) (mCons (mVar 2) mNil))))) (mVar 2)) mNil))))
def f_points_told : List D → MH → Res D := mFn 1 3 (mSeq (mSet 1 (mIf (mTb (mBin gEqX (mSl (mVar 0) mNoPart (mPart (mC (.int 1)))) (mC (.str "-")))) (mSl (mVar 0) (mPart (mC (.int 1))) mNoPart) (mVar 0))) (mSeq (mIfS (mOrT (mTb (mBin gEqX (mVar 1) (mC (.str "")))) (mNotT (mTr (mCB cAll (mCons (mLc [2] (mItm itsA (mVar 1)) (tgName 2) mYes (mBin gIn (mVar 2) (mC (.str "0123456789")))) mNil))))) (mRet (mC .non)) mNext) (mSeq (mIfS (mAndT (mTb (mBin gEqX (mBin gIx (mVar 1) (mC (.int 0))) (mC (.str "0")))) (mOrT (mTb (mBin gGt (mCB cLen (mCons (mVar 1) mNil)) (mC (.int 1)))) (mTb (mBin gNeX (mVar 0) (mVar 1))))) (mRet (mC .non)) mNext) (mRet (mCB cInt (mCons (mVar 0) mNil))))))
def f_result_told : List D → MH → Res D := mFn 1 3 (mSeq (mIfS (mTb (mBin gNeX (mBM "str" fCount (mVar 0) (mCons (mC (.str ":")) mNil)) (mC (.int 1)))) (mRet (mC .non)) mNext) (mSeq (mAsg (mBM "str" fSplit (mVar 0) (mCons (mC (.str ":")) mNil)) (tgLst 2 (tgCons (tgName 1) (tgCons (tgName 2) tgNil)))) (mRet (mTup (mCons (mVar 1) (mCons (mCall 1 C.f_points_told (mCons (mVar 2) mNil)) mNil))))))
def f_text_of_game : List D → MH → Res D := mFn 1 3 (mRet (mBM "str" fJoin (mC (.str " ")) (mCons (mLc [1, 2] (mItm itsA (mVar 0)) (tgTup 2 (tgCons (tgName 1) (tgCons (tgName 2) tgNil))) mYes (mJs [mFmt (mVar 1), mFmt (mC (.str ":")), mFmt (mVar 2)] Str.empty)) mNil)))
def f_text_of_games : List D → MH → Res D := mFn 1 2 (mRet (mIf (mTb (mBin gNeX (mVar 0) (mTup mNil))) (mBM "str" fJoin (mC (.str "\n")) (mCons (mLc [1] (mItm itsA (mVar 0)) (tgName 1) mYes (mCall 1 C.f_text_of_game (mCons (mVar 1) mNil))) mNil)) (mC (.str "-"))))
def f_games_told : List D → MH → Res D := mFn 2 7 (mSeq (mIfS (mNotT (mTr (mCB cIsi (mCons (mVar 0) (mCons (mC (.ty "str")) mNil))))) (mRet (mC .non)) mNext) (mSeq (mSet 2 (mIf (mTb (mBin gNeX (mVar 0) (mC (.str "-")))) (mBM "str" fSplit (mVar 0) (mCons (mC (.str "\n")) mNil)) (mLst mNil))) (mSeq (mSet 3 (mCB cTuple (mCons (mLc [4] (mItm itsA (mVar 2)) (tgName 4) mYes (mCB cTuple (mCons (mLc [5] (mItm itsA (mBM "str" fSplit (mVar 4) (mCons (mC (.str " ")) mNil))) (tgName 5) mYes (mCall 1 C.f_result_told (mCons (mVar 5) mNil))) mNil))) mNil))) (mRet (mIf (mAndT (mTb (mBin gLe (mCB cLen (mCons (mVar 3) mNil)) (mVar 1))) (mTr (mCB cAll (mCons (mLc [6] (mItm itsA (mVar 3)) (tgName 6) mYes (mCall 1 C.f_is_game (mCons (mVar 6) mNil))) mNil)))) (mVar 3) (mC .non))))))
def f_check_told : List D → MH → Res D := mFn 2 2 (mIfS (mTb (mBin gIs (mVar 0) (mC .non))) (mRaise 16 "given" (mVar 1)) mNext)
def f_season_text : List D → MH → Res D := mFn 1 1 (mSeq (mIfS (mNotT (mTr (mIsOwn (isOf 45) (mVar 0)))) (mRaise 25 "given" (mVar 0)) mNext) (mRet (mCall 1 C.f_text_of_games (mCons (mFld 45 "kept" (mVar 0)) mNil))))
def f_read_season : List D → MH → Res D := mFn 1 2 (mSeq (mSet 1 (mCall 2 C.f_games_told (mCons (mVar 0) (mCons (mC (.int 200)) mNil)))) (mSeq (mExpr (mCall 2 C.f_check_told (mCons (mVar 1) (mCons (mVar 0) mNil)))) (mRet (mVar 1))))
def f__law_grind : List D → MH → Res D := mFn 2 3 (mSeq (mIfS (mTb (mBin gGt (mBin gIx (mVar 0) (mC (.int 0))) (mC (.int 0)))) (mSeq (mAsg (mCB cDivmod (mCons (mBin gIx (mVar 0) (mC (.int 0))) (mCons (mVar 1) mNil))) (tgTup 2 (tgCons (tgSub (mVar 0) (mC (.int 0))) (tgCons (tgName 2) tgNil)))) (mRet (mVar 2))) mNext) (mSeq (mAsg (mBin gMod (mCB cInt (mCons (mBin gAdd (mBin gMul (mBin gIx (mVar 0) (mC (.int 1))) (mC (.int 69069))) (mC (.int 12345))) mNil)) (mC (.int 4294967291))) (tgSub (mVar 0) (mC (.int 1)))) (mSeq (mAsg (mBin gMod (mCB cInt (mCons (mBin gAdd (mBin gMul (mBin gIx (mVar 0) (mC (.int 2))) (mC (.int 48271))) (mC (.int 11))) mNil)) (mC (.int 2147483647))) (tgSub (mVar 0) (mC (.int 2)))) (mRet (mBin gMod (mCB cInt (mCons (mBin gAdd (mBin gFdiv (mBin gIx (mVar 0) (mC (.int 1))) (mC (.int 977))) (mBin gFdiv (mBin gIx (mVar 0) (mC (.int 2))) (mC (.int 13)))) mNil)) (mVar 1))))))
def f__law_among : List D → MH → Res D := mFn 2 2 (mRet (mBin gIx (mVar 1) (mCall 2 C.f__law_grind (mCons (mVar 0) (mCons (mCB cLen (mCons (mVar 1) mNil)) mNil)))))
def f__law_shuffled : List D → MH → Res D := mFnT 2 5 (mSeq (mPar 3 4 (mCB cListN (mCons (mVar 1) mNil)) (mLstN mNil)) (mSeq (mFor (mArgs rng1 (mCons (mCB cLen (mCons (mVar 3) mNil)) mNil)) (tgName 2) (mExpr (mBM "list" fAppend (mVar 4) (mCons (mBM "list" fPopAt (mVar 3) (mCons (mCall 2 C.f__law_grind (mCons (mVar 0) (mCons (mCB cLen (mCons (mVar 3) mNil)) mNil))) mNil)) mNil)))) (mRet (mFrz (mVar 4)))))
def f__law_is_that : Nat → List D → MH → Res D
  | 0 => fun _ _ => .stuck
  | n + 1 => let rc := f__law_is_that n; mFn 2 5 (mSeq (mIfS (mOrT (mTr (mCB cIsi (mCons (mVar 1) (mCons (mC (.ty "tuple")) mNil)))) (mTr (mCB cIsi (mCons (mVar 1) (mCons (mC (.ty "list")) mNil))))) (mSeq (mSet 2 (mAnd (mBin gEqX (mCB cIsi (mCons (mVar 0) (mCons (mC (.ty "tuple")) mNil))) (mCB cIsi (mCons (mVar 1) (mCons (mC (.ty "tuple")) mNil)))) (mBin gEqX (mCB cIsi (mCons (mVar 0) (mCons (mC (.ty "list")) mNil))) (mCB cIsi (mCons (mVar 1) (mCons (mC (.ty "list")) mNil)))))) (mRet (mAnd (mVar 2) (mAnd (mBin gEqX (mCB cLen (mCons (mVar 0) mNil)) (mCB cLen (mCons (mVar 1) mNil))) (mCB cAll (mCons (mLc [3, 4] (mArgs zipA (mCons (mVar 0) (mCons (mVar 1) mNil))) (tgPair 2 (tgCons (tgName 3) (tgCons (tgName 4) tgNil))) mYes (mCall 2 rc (mCons (mVar 3) (mCons (mVar 4) mNil)))) mNil)))))) mNext) (mSeq (mIfS (mTb (mBin gIs (mVar 1) (mC .non))) (mRet (mBin gIs (mVar 0) (mC .non))) mNext) (mSeq (mIfS (mTr (mCB cIsi (mCons (mVar 1) (mCons (mC (.ty "bool")) mNil)))) (mRet (mAnd (mCB cIsi (mCons (mVar 0) (mCons (mC (.ty "bool")) mNil))) (mBin gEqX (mVar 0) (mVar 1)))) mNext) (mSeq (mIfS (mTr (mCB cIsi (mCons (mVar 1) (mCons (mC (.ty "int")) mNil)))) (mRet (mAnd (mCB cIsi (mCons (mVar 0) (mCons (mC (.ty "int")) mNil))) (mAnd (mNot (mCB cIsi (mCons (mVar 0) (mCons (mC (.ty "bool")) mNil)))) (mBin gEqX (mVar 0) (mVar 1))))) mNext) (mRet (mAnd (mCB cIsi (mCons (mVar 0) (mCons (mC (.ty "str")) mNil))) (mBin gEqX (mVar 0) (mVar 1))))))))
def n_f__law_is_that : List D → MH → Res D := mFn 2 5 (mSeq (mIfS (mOrT (mTr (mCB cIsi (mCons (mVar 1) (mCons (mC (.ty "tuple")) mNil)))) (mTr (mCB cIsi (mCons (mVar 1) (mCons (mC (.ty "list")) mNil))))) mStuck mNext) (mSeq (mIfS (mTb (mBin gIs (mVar 1) (mC .non))) (mRet (mBin gIs (mVar 0) (mC .non))) mNext) (mSeq (mIfS (mTr (mCB cIsi (mCons (mVar 1) (mCons (mC (.ty "bool")) mNil)))) (mRet (mAnd (mCB cIsi (mCons (mVar 0) (mCons (mC (.ty "bool")) mNil))) (mBin gEqX (mVar 0) (mVar 1)))) mNext) (mSeq (mIfS (mTr (mCB cIsi (mCons (mVar 1) (mCons (mC (.ty "int")) mNil)))) (mRet (mAnd (mCB cIsi (mCons (mVar 0) (mCons (mC (.ty "int")) mNil))) (mAnd (mNot (mCB cIsi (mCons (mVar 0) (mCons (mC (.ty "bool")) mNil)))) (mBin gEqX (mVar 0) (mVar 1))))) mNext) (mRet (mAnd (mCB cIsi (mCons (mVar 0) (mCons (mC (.ty "str")) mNil))) (mBin gEqX (mVar 0) (mVar 1))))))))
def f__law_mill : List D → MH → Res D := mFn 2 7 (mSeq (mPar 3 4 (mBin gAdd (mC (.int 1000003)) (mBin gMul (mC (.int 77)) (mVar 1))) (mBin gAdd (mC (.int 777767)) (mBin gMul (mC (.int 1913)) (mVar 1)))) (mSeq (mFor (mArgs enumA (mCons (mSl (mVar 0) mNoPart (mPart (mC (.int 11)))) mNil)) (tgPair 2 (tgCons (tgName 5) (tgCons (tgName 6) tgNil))) (mSeq (mSet 3 (mBin gMod (mCB cInt (mCons (mBin gAdd (mBin gAdd (mBin gMul (mVar 3) (mC (.int 69069))) (mBin gMod (mCB cInt (mCons (mVar 6) mNil)) (mC (.int 1073741789)))) (mBin gMul (mC (.int 3)) (mVar 5))) mNil)) (mC (.int 4294967291)))) (mSet 4 (mBin gMod (mCB cInt (mCons (mBin gAdd (mBin gAdd (mBin gMul (mVar 4) (mC (.int 16807))) (mBin gMod (mCB cInt (mCons (mVar 6) mNil)) (mC (.int 998244353)))) (mVar 1)) mNil)) (mC (.int 2147483647)))))) (mSeq (mSet 2 (mIf (mTb (mBin gLt (mVar 1) (mCB cLen (mCons (mVar 0) mNil)))) (mCB cAbs (mCons (mCB cInt (mCons (mBin gIx (mVar 0) (mVar 1)) mNil)) mNil)) (mC (.int 0)))) (mRet (mLstN (mCons (mIf (mTb (mBin gGt (mVar 2) (mBin gPow (mC (.int 10)) (mC (.int 16))))) (mBin gMod (mCB cInt (mCons (mVar 2) mNil)) (mBin gPow (mC (.int 10)) (mC (.int 45)))) (mC (.int 0))) (mCons (mVar 3) (mCons (mVar 4) mNil))))))))
def f__law_players : List D → MH → Res D := mFn 0 0 (mRet (mLst (mCons (mC (.str "ann")) (mCons (mC (.str "bob")) (mCons (mC (.str "cat")) (mCons (mC (.str "dora")) (mCons (mC (.str "eve")) (mCons (mC (.str "zachary")) (mCons (mC (.str "q")) mNil)))))))))
end ML.C
set_option Elab.async false
set_option linter.all false
set_option maxRecDepth 100000
set_option maxHeartbeats 2000000
set_option autoImplicit false
/-! M: what the top has left, read off the run. -/
namespace ML
open PySem PySem.Spec PyProof.Rows L2
open He (Fa DefD Defn SaysX SaysD ga ma fAd cT eqO eqO_ok ba)

theorem memL {α β : Type} [BEq α] [LawfulBEq α] {a : α} {b : β} : ∀ {l : List (α × β)}, l.lookup a = some b → (a, b) ∈ l
  | [], h => by cases h
  | (c, d) :: r, h => by
    rw [List.lookup_cons] at h
    split at h
    · rename_i e
      cases h
      rw [eq_of_beq e]
      exact List.mem_cons_self
    · exact List.mem_cons_of_mem _ (memL h)
/-! ### classes of exceptions -/
def oexIn (K : PySem.W.Frag) (C : Addr) : Bool := match K.lookup C with
  | some ⟨.type "type", _, .cls cd, sl⟩ => (match cd.mro, sl.toList with
    | .ref C' :: bm, [_, _, _, _, some (.builtin n), _] => C' == C && (n == "ValueError.__new__" && (!cd.hasDel && (cd.hasDict && PySem.HandSPX.refsVE bm)))
    | _, _ => false)
  | _ => false
theorem oexIn_ok {K : PySem.W.Frag} {C : Addr} (q : oexIn K C = true) : ∃ nm qn N bs bm sn sub ab col dd k0 k1 k2 k3 k5, K.lookup C = some (excClassObj nm qn C N bs bm true sn sub ab col dd k0 k1 k2 k3 k5 "ValueError.__new__") ∧ PySem.HandSPX.refsVE bm = true := by
  unfold oexIn at q
  split at q
  · rename_i dd cd sl ho
    split at q
    · rename_i C' bm k0 k1 k2 k3 n k5 hm hs
      simp only [Bool.and_eq_true, beq_iff_eq, Bool.not_eq_true'] at q
      obtain ⟨rfl, rfl, hdel, hd, ht⟩ := q
      obtain ⟨nm, bs, mro, ns, qn, hdd, sn, sub, ab, col, del⟩ := cd
      dsimp only at hm hdel hd
      subst hm hdel hd
      have hsl : sl = #[k0, k1, k2, k3, some (.builtin "ValueError.__new__"), k5] := by
        obtain ⟨l⟩ := sl
        simp only at hs
        rw [hs]
      subst hsl
      exact ⟨nm, qn, ns, bs, bm, sn, sub, ab, col, dd, k0, k1, k2, k3, k5, ho, ht⟩
    · cases q
  · cases q
/-! ### more facts -/
inductive Fx where
  | exc (x f : Str)
  | try_ (x : Str) (tc : List (Str × Bool))
  | xf (x f : Str)
  | isa (x : Str)
  | isb (y x : Str) (b : Bool)
  | eqm (x : Str)
  | tabs (l : List Defn)
def Fx.ok (K : PySem.W.Frag) : Fx → Bool
  | .exc x f => oexIn K (ga K x) && (eqO (PySem.W.findIn K (.ref (ga K x)) "__setattr__") (some (some (.builtin "object.__setattr__"))) && (decide (PySem.W.subIn K (.ref (ga K x)) (.type "BaseException") = some true) && (decide (PySem.W.typeIn K (.ref (ga K x)) = some (.type "type")) &&
      (PySem.W.keepIn K (.ref (ga K x)) && (eqO (PySem.W.findIn K (.ref (ga K x)) "__init__") (some (some (.ref (ma K (ga K x) "__init__")))) && (decide (PySem.W.typeIn K (.ref (ma K (ga K x) "__init__")) = some (.type "function")) && eqO (PySem.W.findIn K (.ref (ga K x)) f) (some none)))))))
  | .try_ x tc => tc.all fun q => decide (PySem.W.exmOne K (.ref (ga K q.1)) (.ref (ga K x)) = some q.2)
  | .xf x f => xfB K (ga K x) && eqO (PySem.W.findIn K (.ref (ga K x)) f) (some none)
  | .isa x => TyNames.all fun T => decide (PySem.W.kitOne K (.type T) (.ref (ga K x)) = some false)
  | .isb y x b => (Fa.cls y).ok K && (eqO (PySem.W.findIn K (.ref (ga K y)) "__class__") (some (some (.builtin "object.__class__"))) && (decide (PySem.W.specialIn K (.builtin "object.__class__") "__get__" = some (some (.builtin "getset_descriptor.__get__"))) && (decide (PySem.W.takesIn K (.builtin "object.__class__") = some true) &&
      (decide (PySem.W.mroIn K (ga K y) (.type "object") = some true) && decide (PySem.W.kitOne K (.ref (ga K y)) (.ref (ga K x)) = some b)))))
  | .eqm x => decide (PySem.W.mroIn K (ga K x) (.type "object") = some true) && eqO (PySem.W.findIn K (.ref (ga K x)) "__eq__") (some (some (.builtin "object.__eq__")))
  | .tabs l => decide ((l.map fun p => (cT K p).2).Nodup)
/-- what is fixed, read off the run -/
def gdOf (K : PySem.W.Frag) (cls : List Str) (tl : List (Defn × Str)) : Gd := ⟨K, cls.map (ga K), tl.map fun p => ((cT K p.1).2, p.2)⟩
def dfn (at_ : Defn) (x qual : Str) (st : Stmt) : DefD := ⟨at_, x, qual, defArgs st, defBody st, defScope st, [], []⟩
structure HdC (fa : List Fa) (fn : List DefD) (tl : List (Defn × Str)) (fx : List Fx) (w : World) (h : Heap) (K : PySem.W.Frag) (mg : Str → Option Value) : Prop where
  X : K.In h
  G : h.Ns mainGlobals mg
  S : SaysX fa fn [] (tl.map (·.1)) (fun K => fx.all (Fx.ok K)) w h K
section
variable {fa : List Fa} {fn : List DefD} {tl : List (Defn × Str)} {fx : List Fx} {w : World} {h : Heap} {K : PySem.W.Frag} {mg : Str → Option Value} {cls : List Str} {base : Heap}
theorem HdC.fact (c : HdC fa fn tl fx w h K mg) (i : Nat) {f : Fa} (e : fa[i]? = some f) : f.ok K = true := c.S.t.d.fact i e
theorem HdC.more (c : HdC fa fn tl fx w h K mg) (i : Nat) {f : Fx} (e : fx[i]? = some f) : f.ok K = true := List.all_eq_true.mp c.S.more f (List.mem_of_getElem? e)
theorem HdC.fun_ (c : HdC fa fn tl fx w h K mg) (i : Nat) {at_ : Defn} {x qual : Str} {st : Stmt} {ps : List Str} (e : fn[i]? = some (dfn at_ x qual st))
    (hb : ∀ (kV doc pm : Value) (an : Option Addr) (cdv ct : Value) (us : List Value), us.length = ps.length → bindArgs (PySem.W.fnOf x qual (defArgs st) (defBody st) (defScope st) .none kV doc pm an cdv ct) ⟨us, []⟩ = pure (ps.zip us)) :
    ∃ fd, Fun K x qual st (fAd K at_) fd ∧ Binds K fd ps [] ∧ ∀ (s : Shared) (us : List Value), us.length = ps.length → BindsTo s fd ⟨us, []⟩ (ps.zip us) := by
  obtain ⟨fd, F⟩ := c.S.t.d.def_ i e
  refine ⟨fd, ?_, F.bindsN hb, F.bindsA hb⟩
  obtain ⟨⟨oc, od, dV, kV, doc, pm, an, cdv, ct, osl, e1, e2, e3, hD, _⟩, kp⟩ := F
  rcases hD with ⟨_, rfl⟩ | ⟨z, _⟩
  · exact ⟨⟨oc, od, kV, doc, pm, an, cdv, ct, osl, e1, e2, e3⟩, kp⟩
  · exact absurd rfl z
theorem HdC.at_ (c : HdC fa fn tl fx w h K mg) (i j : Nat) {x : Str} {st : Stmt} {ps : List Str} (e : fn[i]? = some (dfn (x, none) x x st)) (e2 : fa[j]? = some (.glo x))
    (hb : ∀ (kV doc pm : Value) (an : Option Addr) (cdv ct : Value) (us : List Value), us.length = ps.length → bindArgs (PySem.W.fnOf x x (defArgs st) (defBody st) (defScope st) .none kV doc pm an cdv ct) ⟨us, []⟩ = pure (ps.zip us)) : At mg (gdOf K cls tl) x x st ps := by
  obtain ⟨fd, F, b, _⟩ := c.fun_ i e hb
  exact ⟨_, fd, F, He.glo_ok c.X c.G (c.fact j e2), b⟩
theorem cl_at {c : Nat} {x : Str} (e : cls[c]? = some x) : (gdOf K cls tl).cl[c]? = some (ga K x) := by
  show (cls.map (ga K))[c]? = _
  rw [List.getElem?_map, e]; rfl
theorem HdC.cl (c : HdC fa fn tl fx w h K mg) (j : Nat) {n : Nat} {x : Str} (e : cls[n]? = some x) (e2 : fa[j]? = some (.cls x)) : ClM (gdOf K cls tl) n (ga K x) := ⟨cl_at e, He.cls_ok (c.fact j e2)⟩
theorem HdC.ai (c : HdC fa fn tl fx w h K mg) (i j k l : Nat) {n : Nat} {x qual : Str} {st : Stmt} {ps : List Str} (ec : cls[n]? = some x) (e : fn[i]? = some (dfn (x, some "__init__") "__init__" qual st)) (e2 : fa[j]? = some (.glo x)) (e3 : fa[k]? = some (.cls x)) (e4 : fa[l]? = some (.mkr x))
    (hb : ∀ (kV doc pm : Value) (an : Option Addr) (cdv ct : Value) (us : List Value), us.length = ps.length → bindArgs (PySem.W.fnOf "__init__" qual (defArgs st) (defBody st) (defScope st) .none kV doc pm an cdv ct) ⟨us, []⟩ = pure (ps.zip us)) : AtI mg (gdOf K cls tl) n x qual st ps := by
  obtain ⟨fd, F, b, _⟩ := c.fun_ i e hb
  exact ⟨ga K x, _, fd, c.cl k ec e3, He.mkr_ok (c.fact l e4), F, He.glo_ok c.X c.G (c.fact j e2), b⟩
theorem HdC.am (c : HdC fa fn tl fx w h K mg) (i k l : Nat) {n : Nat} {x m qual : Str} {st : Stmt} {ps : List Str} (ec : cls[n]? = some x) (e : fn[i]? = some (dfn (x, some m) m qual st)) (e3 : fa[k]? = some (.cls x)) (e4 : fa[l]? = some (.meth x m))
    (hb : ∀ (kV doc pm : Value) (an : Option Addr) (cdv ct : Value) (us : List Value), us.length = ps.length → bindArgs (PySem.W.fnOf m qual (defArgs st) (defBody st) (defScope st) .none kV doc pm an cdv ct) ⟨us, []⟩ = pure (ps.zip us)) : AtM (gdOf K cls tl) n m qual st ps := by
  obtain ⟨fd, F, b, _⟩ := c.fun_ i e hb
  exact ⟨ga K x, _, fd, c.cl k ec e3, He.meth_ok (c.fact l e4), F, b⟩
theorem HdC.ax (c : HdC fa fn tl fx w h K mg) (i j k : Nat) {n : Nat} {x f qual : Str} {st : Stmt} {ps : List Str} (ec : cls[n]? = some x) (e : fn[i]? = some (dfn (x, some "__init__") "__init__" qual st)) (e2 : fa[j]? = some (.glo x)) (e3 : fx[k]? = some (.exc x f))
    (hb : ∀ (kV doc pm : Value) (an : Option Addr) (cdv ct : Value) (us : List Value), us.length = ps.length → bindArgs (PySem.W.fnOf "__init__" qual (defArgs st) (defBody st) (defScope st) .none kV doc pm an cdv ct) ⟨us, []⟩ = pure (ps.zip us)) : AtX mg (gdOf K cls tl) n x f qual st ps := by
  obtain ⟨fd, F, b, _⟩ := c.fun_ i e hb
  obtain ⟨h1, q⟩ := ba (c.more k e3)
  obtain ⟨h2, q⟩ := ba q
  obtain ⟨h3, q⟩ := ba q
  obtain ⟨h4, q⟩ := ba q
  obtain ⟨h5, q⟩ := ba q
  obtain ⟨h6, q⟩ := ba q
  obtain ⟨h7, h8⟩ := ba q
  exact ⟨ga K x, _, fd, cl_at ec, ⟨oexIn_ok h1, eqO_ok h2, of_decide_eq_true h3, of_decide_eq_true h4, h5⟩, eqO_ok h6, of_decide_eq_true h7, eqO_ok h8, F, b, He.glo_ok c.X c.G (c.fact j e2)⟩
theorem HdC.fld (c : HdC fa fn tl fx w h K mg) (j k : Nat) {n : Nat} {x f : Str} (ec : cls[n]? = some x) (e : fa[j]? = some (.cls x)) (e2 : fa[k]? = some (.noat x f)) : FldM (gdOf K cls tl) n f := ⟨ga K x, c.cl j ec e, He.noat_ok (c.fact k e2)⟩
theorem HdC.eqm (c : HdC fa fn tl fx w h K mg) (k : Nat) {n : Nat} {x : Str} (ec : cls[n]? = some x) (e : fx[k]? = some (.eqm x)) : ∃ C, (gdOf K cls tl).cl[n]? = some C ∧ EqM (gdOf K cls tl).K C := by
  obtain ⟨h1, h2⟩ := ba (c.more k e)
  exact ⟨ga K x, cl_at ec, of_decide_eq_true h1, eqO_ok h2⟩
theorem HdC.int (c : HdC fa fn tl fx w h K mg) (k : Nat) {x : Str} {i : Int} (e : fa[k]? = some (.int x i)) : ∃ t, mg x = some (.int i t) := He.int_ok c.X c.G (c.fact k e)
theorem HdC.str (c : HdC fa fn tl fx w h K mg) (k : Nat) {x z : Str} (e : fa[k]? = some (.str x z)) : ∃ t, mg x = some (.str z t) := He.str_ok c.X c.G (c.fact k e)
theorem HdC.free (c : HdC fa fn tl fx w h K mg) (k : Nat) {x : Str} (e : fa[k]? = some (.free x)) : mg x = none := He.free_ok c.X c.G (c.fact k e)
theorem HdC.isb (c : HdC fa fn tl fx w h K mg) (k : Nat) {n : Nat} {y x : Str} {b : Bool} (ec : cls[n]? = some y) (e : fx[k]? = some (.isb y x b)) : ∃ C', (gdOf K cls tl).cl[n]? = some C' ∧ OwnTy (gdOf K cls tl).K C' ∧ PySem.W.kitOne (gdOf K cls tl).K (.ref C') (.ref (ga K x)) = some b := by
  obtain ⟨h1, q⟩ := ba (c.more k e)
  obtain ⟨h2, q⟩ := ba q
  obtain ⟨h3, q⟩ := ba q
  obtain ⟨h4, q⟩ := ba q
  obtain ⟨h5, h6⟩ := ba q
  exact ⟨ga K y, cl_at ec, ⟨He.cls_ok h1, eqO_ok h2, of_decide_eq_true h3, of_decide_eq_true h4, of_decide_eq_true h5⟩, of_decide_eq_true h6⟩
theorem HdC.isa (c : HdC fa fn tl fx w h K mg) (j k : Nat) {x : Str} {t : Nat → Option Bool} (e2 : fa[j]? = some (.glo x)) (e : fx[k]? = some (.isa x)) (ht : ∀ n b, t n = some b → ∃ C', (gdOf K cls tl).cl[n]? = some C' ∧ OwnTy (gdOf K cls tl).K C' ∧ PySem.W.kitOne (gdOf K cls tl).K (.ref C') (.ref (ga K x)) = some b) : IsM mg (gdOf K cls tl) x t :=
  ⟨ga K x, He.glo_ok c.X c.G (c.fact j e2), fun T hT => of_decide_eq_true (List.all_eq_true.mp (c.more k e) T hT), ht⟩
theorem HdC.try_ (c : HdC fa fn tl fx w h K mg) (j k : Nat) {x : Str} {tn : List (Str × Bool)} {tc : List (Nat × Bool)} (e2 : fa[j]? = some (.glo x)) (e : fx[k]? = some (.try_ x tn)) (ht : (tc.all fun q => match cls[q.1]? with | some y => decide ((y, q.2) ∈ tn) | none => false) = true) : TryM mg (gdOf K cls tl) x tc := by
  refine ⟨ga K x, He.glo_ok c.X c.G (c.fact j e2), fun n b hb => ?_⟩
  have hm : (n, b) ∈ tc := memL hb
  have h1 := List.all_eq_true.mp ht _ hm
  simp only at h1
  split at h1
  · rename_i y hy
    have h2 := List.all_eq_true.mp (c.more k e) _ (of_decide_eq_true h1)
    exact ⟨ga K y, cl_at hy, of_decide_eq_true h2⟩
  · cases h1
theorem HdC.xf (c : HdC fa fn tl fx w h K mg) (k : Nat) {n : Nat} {x f : Str} (ec : cls[n]? = some x) (e : fx[k]? = some (.xf x f)) : XfM (gdOf K cls tl) n f := by
  obtain ⟨h1, h2⟩ := ba (c.more k e)
  exact ⟨ga K x, cl_at ec, xfB_ok h1, eqO_ok h2⟩
theorem HdC.tab (c : HdC fa fn tl fx w h K mg) (i k t : Nat) {at_ : Defn} {x qual q : Str} {st : Stmt} (e : fn[i]? = some (dfn at_ x qual st)) (et : tl[t]? = some (at_, q)) (e2 : fx[k]? = some (.tabs (tl.map (·.1)))) (B : ∀ p ∈ (tl.map (·.1)).map (cT K), LamX.TabB base mg p.1 p.2) :
    TabM mg base (gdOf K cls tl) (codeVal (gdOf K cls tl).K (fAd K at_)) q := by
  obtain ⟨fd, F⟩ := c.S.t.d.def_ i e
  obtain ⟨⟨oc, od, dV, kV, doc, pm, an, cdv, ct, osl, e1, lk, e3, hD, _⟩, kp⟩ := F
  obtain ⟨cc, rfl⟩ := He.codeIn_ref e3
  subst e1
  have ec := He.codeOf_eq lk rfl
  have hm : at_ ∈ tl.map (·.1) := List.mem_map.mpr ⟨(at_, q), List.mem_of_getElem? et, rfl⟩
  have hB := B (cT K at_) (List.mem_map.mpr ⟨at_, hm, rfl⟩)
  refine ⟨cc, (cT K at_).2, ?_, ?_, ?_, ?_⟩
  · unfold codeVal
    rw [show (gdOf K cls tl).K = K from rfl, show List.lookup (fAd K at_) K = _ from lk]
  · rw [show (cT K at_).1 = cc from ec] at hB
    exact hB
  · exact List.mem_map.mpr ⟨(at_, q), List.mem_of_getElem? et, rfl⟩
  · intro z hz ez
    obtain ⟨p, hp, rfl⟩ := List.mem_map.mp hz
    have nd : ((tl.map (·.1)).map fun p => (cT K p).2).Nodup := of_decide_eq_true (c.more k e2)
    rw [List.map_map] at nd
    have key : ∀ (l : List (Defn × Str)), (l.map ((fun p => (cT K p).2) ∘ (·.1))).Nodup → ∀ a ∈ l, ∀ b ∈ l, (cT K a.1).2 = (cT K b.1).2 → a = b := by
      intro l
      induction l with
      | nil => intro _ a ha; cases ha
      | cons y l ih =>
        intro nd a ha b hb eab
        rw [List.map_cons, List.nodup_cons] at nd
        rcases List.mem_cons.mp ha with rfl | ha2
        · rcases List.mem_cons.mp hb with rfl | hb2
          · rfl
          · exact absurd (show ((fun p => (cT K p).2) ∘ (·.1)) a ∈ l.map ((fun p => (cT K p).2) ∘ (·.1)) from List.mem_map.mpr ⟨b, hb2, eab.symm⟩) nd.1
        · rcases List.mem_cons.mp hb with rfl | hb2
          · exact absurd (show ((fun p => (cT K p).2) ∘ (·.1)) b ∈ l.map ((fun p => (cT K p).2) ∘ (·.1)) from List.mem_map.mpr ⟨a, ha2, eab⟩) nd.1
          · exact ih nd.2 a ha2 b hb2 eab
    have := key tl nd p hp (at_, q) (List.mem_of_getElem? et) ez
    rw [this]
end
/-- the law's promise, from what its mirror gives -/
theorem law_spM {g : Gd} {m : List D → MH → Res D} {cs : List (Addr × Addr)} {H : Hp} {a : Addr} {ns : List Int} (hT : ∀ z ∈ g.T, ∃ p ∈ cs, z.1 = p.2) (h0 : ∀ p ∈ cs, H p.2 = some (.tbl #[])) (hS : SqL g.K H a (ns.map V.int)) (hm : ∃ h', m [.scr (ns.map D.int)] [] = .ok (.bl true) h') :
    spM g 1 m [.ref a] H (fun v _ => v = .bl true) fun _ _ _ => False := by
  obtain ⟨h', e⟩ := hm
  have keep : ∀ b o, (match H b with | some (.tbl _) => none | o => o) = some o → H b = some o ∧ ∀ ps, o ≠ .tbl ps := fun b o z => by
    split at z
    · cases z
    · rename_i hn
      exact ⟨z, fun ps q => hn ps (by rw [z, q])⟩
  have there : ∀ b u, H b = some u → (∀ ps, u ≠ .tbl ps) → (match H b with | some (.tbl _) => none | o => o) = some u := fun b u z n => by
    rw [z]
    cases u with
    | tbl ps => exact absurd rfl (n ps)
    | _ => rfl
  refine ⟨rfl, ⟨fun b => match H b with | some (.tbl _) => none | o => o, [], fun _ => none⟩, [.scr (ns.map D.int)], [], ⟨fun b o z => (keep b o z).1, rfl, List.nodup_nil, fun n o z => by simp at z, fun b o z => (by cases z), fun z hz => ?_, fun b o z => (keep b o z).2⟩, ?_, ?_⟩
  · obtain ⟨p, hp, e⟩ := hT z hz
    rw [e]
    exact .nil (h0 p hp)
  · refine .cons ?_ .nil
    simp only [Rep]
    refine ⟨a, ns.map V.int, rfl, ?_, ?_⟩
    · rcases hS with (q | ⟨o, q⟩) | q
      · exact .inl (.inl (there _ _ q fun ps z => by cases z))
      · exact .inl (.inr ⟨o, there _ _ q fun ps z => by cases z⟩)
      · exact .inr q
    · clear e h' hS
      induction ns with
      | nil => exact .nil
      | cons n ns ih => exact .cons (by simp [Rep]) ih
  · rw [e]
    intro w' v H' _ _ r
    simpa [Rep] using r
theorem FnM.fd_at {P : Program} {w : World} {mg : Str → Option Value} {base : Heap} {g : Gd} {k n : Nat} {x qual : Str} {st : Stmt} {ps : List Str} {m : List D → MH → Res D} {f : Addr} {fd : FuncData} (F : FnM P w mg base g k x qual st ps n m) (F0 : Fun g.K x qual st f fd) (hm : mg x = some (.ref f)) :
    FnOk P w g.K mg base (L2.CX P w) k f fd ps (spM g n m) := by
  obtain ⟨f', fd', F1, ok, hm', _, _⟩ := F
  rw [hm] at hm'
  cases hm'
  obtain ⟨_, _, _, _, _, _, _, _, _, e1, l1, _⟩ := F0.ex
  obtain ⟨_, _, _, _, _, _, _, _, _, e2, l2, _⟩ := F1.ex
  rw [l1] at l2
  cases l2
  exact ok
theorem HdC.law {fa : List Fa} {fn : List DefD} {tl : List (Defn × Str)} {fx : List Fx} {h : Heap} {K : PySem.W.Frag} {mg : Str → Option Value} {cls : List Str} {l : PySem.W.OpenLaw} {w : World} {k n : Nat} {m : List D → MH → Res D} {st : Stmt} {f0 : Addr} (c : HdC fa fn tl fx w h K mg) (i j : Nat) (e : fn[i]? = some (dfn ("law", none) "law" "law" st)) (e2 : fa[j]? = some (.glo "law")) (hf : mg "law" = some (.ref f0))
    (hb : ∀ (kV doc pm : Value) (an : Option Addr) (cdv ct : Value) (us : List Value), us.length = ["script"].length → bindArgs (PySem.W.fnOf "law" "law" (defArgs st) (defBody st) (defScope st) .none kV doc pm an cdv ct) ⟨us, []⟩ = pure ((["script"] : List Str).zip us))
    (r : ∀ base : Heap, (∀ p ∈ (tl.map (·.1)).map (cT K), LamX.TabB base mg p.1 p.2) → FnM l.prog w mg base (gdOf K cls tl) k "law" "law" st ["script"] 1 m) (hm : ∀ ns : List Int, ns.length ≤ n → (∀ z ∈ ns, Builtin.Int.intBits z ≤ 1048576) → ∃ h', m [.scr (ns.map D.int)] [] = .ok (.bl true) h') :
    LamX.LawAtS l w K (L2.CX l.prog w) k n "script" mg f0 h := by
  obtain ⟨fd, F, _, b⟩ := c.fun_ (ps := ["script"]) i e hb
  have hg : mg "law" = some (.ref (ga K "law")) := He.glo_ok c.X c.G (c.fact j e2)
  have e0 : f0 = ga K "law" := by rw [hf] at hg; cases hg; rfl
  subst e0
  refine ⟨fd, (tl.map (·.1)).map (cT K), spM (gdOf K cls tl) 1 m, fun p hp => ?_, fun p hp => ?_, fun p hp => ?_, fun s u => b s [u] rfl, fun H a ns hl hbits h0 hS => ?_, fun base _ _ hB => ?_⟩
  · obtain ⟨q, hq, rfl⟩ := List.mem_map.mp hp
    exact c.S.empty q hq
  · obtain ⟨q, hq, rfl⟩ := List.mem_map.mp hp
    exact c.S.out q hq
  · obtain ⟨q, hq, rfl⟩ := List.mem_map.mp hp
    exact PySem.W.codeHd_of_K c.X (c.S.hd q hq)
  · refine law_spM (cs := (tl.map (·.1)).map (cT K)) (fun z hz => ?_) h0 hS (hm ns hl hbits)
    obtain ⟨p, hp, rfl⟩ := List.mem_map.mp hz
    exact ⟨cT K p.1, List.mem_map.mpr ⟨p.1, List.mem_map.mpr ⟨p, hp, rfl⟩, rfl⟩, rfl⟩
  · exact (r base hB).fd_at F hg
theorem CX_end {P : Program} (w : World) (H : Hp) (s : Shared) (e : Value) (s' : Shared) (x : L2.CX P w [] H s (fun _ _ _ => False) e s') : False := by
  obtain ⟨_, _, _, _, _, _, _, _, _, _, _, _, z⟩ := x
  exact z
end ML
set_option Elab.async false
set_option linter.all false
set_option maxRecDepth 100000
set_option maxHeartbeats 4000000
set_option autoImplicit false
namespace K80
open PySem PySem.Spec PyProof.Rows L2 ML LamX
def top (i : Nat) : Stmt := PySem.Challenge.pw_thirdgames_k80_whole_seasons_counted.main.body.getD i (.Pass ⟨0, 0, 0, 0⟩)
abbrev s_is_whole : Stmt := (top 11)
abbrev s_is_between : Stmt := (top 12)
abbrev s_is_tuple_of : Stmt := (top 13)
abbrev s_is_text_of : Stmt := (top 14)
abbrev s_is_name : Stmt := (top 15)
abbrev s_is_result : Stmt := (top 19)
abbrev s_is_game : Stmt := (top 20)
abbrev s_games_of : Stmt := (top 21)
abbrev s_total_of : Stmt := (top 22)
abbrev s_wins_of : Stmt := (top 23)
abbrev s_names_in : Stmt := (top 24)
abbrev s_standing_of : Stmt := (top 25)
abbrev s_has_beaten : Stmt := (top 26)
abbrev s_Season_init : Stmt := (inClass (top 29) 0)
abbrev s_Season_need : Stmt := (inClass (top 29) 1)
abbrev s_Season_add : Stmt := (inClass (top 29) 2)
abbrev s_Season_undo : Stmt := (inClass (top 29) 4)
abbrev s_Season_total : Stmt := (inClass (top 29) 5)
abbrev s_Season_wins : Stmt := (inClass (top 29) 6)
abbrev s_Season_games : Stmt := (inClass (top 29) 7)
abbrev s_Season_standing : Stmt := (inClass (top 29) 8)
abbrev s_Season_beaten : Stmt := (inClass (top 29) 9)
abbrev s_points_told : Stmt := (top 37)
abbrev s_result_told : Stmt := (top 38)
abbrev s_text_of_game : Stmt := (top 39)
abbrev s_text_of_games : Stmt := (top 40)
abbrev s_games_told : Stmt := (top 41)
abbrev s_check_told : Stmt := (top 43)
abbrev s_season_text : Stmt := (top 44)
abbrev s_read_season : Stmt := (top 45)
abbrev s__law_mill : Stmt := (top 47)
abbrev s__law_grind : Stmt := (top 48)
abbrev s__law_among : Stmt := (top 49)
abbrev s__law_shuffled : Stmt := (top 50)
abbrev s__law_is_that : Stmt := (top 51)
abbrev s__law_players : Stmt := (top 52)
abbrev s__law_game : Stmt := (top 53)
abbrev s__law_counted : Stmt := (top 54)
abbrev s__law_beaten : Stmt := (top 55)
abbrev s__law_standing : Stmt := (top 56)
abbrev s__law_text_of : Stmt := (top 57)
abbrev s__law_is_unknown : Stmt := (top 58)
abbrev s__law_season_right : Stmt := (top 59)
abbrev s__law_has_none : Stmt := (top 60)
abbrev s__law_told : Stmt := (top 61)
abbrev s_law : Stmt := (top 62)
abbrev s_x_InvalidText : Stmt := inClass (top 3) 0
abbrev s_x_InvalidGame : Stmt := inClass (top 4) 0
abbrev s_x_UnknownName : Stmt := inClass (top 5) 0
abbrev s_x_DoesNotFit : Stmt := inClass (top 6) 0
abbrev s_x_NothingToUndo : Stmt := inClass (top 7) 0
def tc_NothingToUndo : List (Nat × Bool) := [(16, false), (18, false), (24, false), (25, false), (27, true)]
def tc_UnknownName : List (Nat × Bool) := [(16, false), (18, false), (24, true), (25, false), (27, false)]
/-- what the top has left -/
structure Top (mg : Str → Option Value) (base : Heap) (g : Gd) : Prop where
  at_is_whole : At mg g "is_whole" "is_whole" s_is_whole ["value"]
  at_is_between : At mg g "is_between" "is_between" s_is_between ["value", "low", "high"]
  at_is_tuple_of : At mg g "is_tuple_of" "is_tuple_of" s_is_tuple_of ["value", "many"]
  at_is_text_of : At mg g "is_text_of" "is_text_of" s_is_text_of ["value", "signs"]
  at_is_name : At mg g "is_name" "is_name" s_is_name ["value"]
  at_is_result : At mg g "is_result" "is_result" s_is_result ["value"]
  at_is_game : At mg g "is_game" "is_game" s_is_game ["value"]
  at_games_of : At mg g "games_of" "games_of" s_games_of ["games", "name"]
  at_total_of : At mg g "total_of" "total_of" s_total_of ["games", "name"]
  at_wins_of : At mg g "wins_of" "wins_of" s_wins_of ["games", "name"]
  at_names_in : At mg g "names_in" "names_in" s_names_in ["games"]
  at_standing_of : At mg g "standing_of" "standing_of" s_standing_of ["games"]
  at_has_beaten : At mg g "has_beaten" "has_beaten" s_has_beaten ["games", "name", "other"]
  ai_Season : AtI mg g 45 "Season" "Season.__init__" s_Season_init ["self"]
  am_Season_need : AtM g 45 "need" "Season.need" s_Season_need ["self", "name"]
  am_Season_add : AtM g 45 "add" "Season.add" s_Season_add ["self", "game"]
  am_Season_undo : AtM g 45 "undo" "Season.undo" s_Season_undo ["self"]
  am_Season_total : AtM g 45 "total" "Season.total" s_Season_total ["self", "name"]
  am_Season_wins : AtM g 45 "wins" "Season.wins" s_Season_wins ["self", "name"]
  am_Season_games : AtM g 45 "games" "Season.games" s_Season_games ["self", "name"]
  am_Season_standing : AtM g 45 "standing" "Season.standing" s_Season_standing ["self"]
  am_Season_beaten : AtM g 45 "beaten" "Season.beaten" s_Season_beaten ["self", "name"]
  at_points_told : At mg g "points_told" "points_told" s_points_told ["word"]
  at_result_told : At mg g "result_told" "result_told" s_result_told ["word"]
  at_text_of_game : At mg g "text_of_game" "text_of_game" s_text_of_game ["game"]
  at_text_of_games : At mg g "text_of_games" "text_of_games" s_text_of_games ["games"]
  at_games_told : At mg g "games_told" "games_told" s_games_told ["text", "most"]
  at_check_told : At mg g "check_told" "check_told" s_check_told ["found", "text"]
  at_season_text : At mg g "season_text" "season_text" s_season_text ["season"]
  at_read_season : At mg g "read_season" "read_season" s_read_season ["text"]
  at__law_mill : At mg g "_law_mill" "_law_mill" s__law_mill ["script", "lap"]
  at__law_grind : At mg g "_law_grind" "_law_grind" s__law_grind ["mill", "many"]
  at__law_among : At mg g "_law_among" "_law_among" s__law_among ["mill", "things"]
  at__law_shuffled : At mg g "_law_shuffled" "_law_shuffled" s__law_shuffled ["mill", "things"]
  at__law_is_that : At mg g "_law_is_that" "_law_is_that" s__law_is_that ["told", "due"]
  at__law_players : At mg g "_law_players" "_law_players" s__law_players []
  at__law_game : At mg g "_law_game" "_law_game" s__law_game ["mill"]
  at__law_counted : At mg g "_law_counted" "_law_counted" s__law_counted ["games", "name"]
  at__law_beaten : At mg g "_law_beaten" "_law_beaten" s__law_beaten ["games", "name"]
  at__law_standing : At mg g "_law_standing" "_law_standing" s__law_standing ["games"]
  at__law_text_of : At mg g "_law_text_of" "_law_text_of" s__law_text_of ["games"]
  at__law_is_unknown : At mg g "_law_is_unknown" "_law_is_unknown" s__law_is_unknown ["act", "name"]
  at__law_season_right : At mg g "_law_season_right" "_law_season_right" s__law_season_right ["season", "games"]
  at__law_has_none : At mg g "_law_has_none" "_law_has_none" s__law_has_none ["season"]
  at__law_told : At mg g "_law_told" "_law_told" s__law_told ["games"]
  at_law : At mg g "law" "law" s_law ["script"]
  ax_InvalidText : AtX mg g 16 "InvalidText" "given" "InvalidText.__init__" s_x_InvalidText ["self", "given"]
  ax_InvalidGame : AtX mg g 18 "InvalidGame" "given" "InvalidGame.__init__" s_x_InvalidGame ["self", "given"]
  ax_UnknownName : AtX mg g 24 "UnknownName" "given" "UnknownName.__init__" s_x_UnknownName ["self", "given"]
  ax_DoesNotFit : AtX mg g 25 "DoesNotFit" "given" "DoesNotFit.__init__" s_x_DoesNotFit ["self", "given"]
  ax_NothingToUndo : AtX mg g 27 "NothingToUndo" "given" "NothingToUndo.__init__" s_x_NothingToUndo ["self", "given"]
  f_Season_kept : FldM g 45 "kept"
  e_Season : ∃ C, g.cl[45]? = some C ∧ EqM g.K C
  c_SMALL_LETTERS : ∃ t, mg "SMALL_LETTERS" = some (.str "abcdefghijklmnopqrstuvwxyz" t)
  c_LONGEST_NAME : ∃ t, mg "LONGEST_NAME" = some (.int 8 t)
  c_MOST_PLAYERS : ∃ t, mg "MOST_PLAYERS" = some (.int 8 t)
  c_MOST_POINTS : ∃ t, mg "MOST_POINTS" = some (.int 99 t)
  c_MOST_GAMES : ∃ t, mg "MOST_GAMES" = some (.int 200 t)
  c_BLANK : ∃ t, mg "BLANK" = some (.str " " t)
  c_COLON : ∃ t, mg "COLON" = some (.str ":" t)
  c_LINE_END : ∃ t, mg "LINE_END" = some (.str "\n" t)
  c_MINUS : ∃ t, mg "MINUS" = some (.str "-" t)
  c_NO_GAMES : ∃ t, mg "NO_GAMES" = some (.str "-" t)
  c_DIGITS : ∃ t, mg "DIGITS" = some (.str "0123456789" t)
  b_abs : mg "abs" = none
  b_all : mg "all" = none
  b_bool : mg "bool" = none
  b_dict : mg "dict" = none
  b_divmod : mg "divmod" = none
  b_enumerate : mg "enumerate" = none
  b_int : mg "int" = none
  b_isinstance : mg "isinstance" = none
  b_len : mg "len" = none
  b_list : mg "list" = none
  b_max : mg "max" = none
  b_range : mg "range" = none
  b_set : mg "set" = none
  b_sorted : mg "sorted" = none
  b_str : mg "str" = none
  b_sum : mg "sum" = none
  b_tuple : mg "tuple" = none
  b_zip : mg "zip" = none
  is_Season : IsM mg g "Season" (isOf 45)
  t_NothingToUndo : TryM mg g "NothingToUndo" tc_NothingToUndo
  t_UnknownName : TryM mg g "UnknownName" tc_UnknownName
  xf_NothingToUndo_given : ∀ k, tc_NothingToUndo.lookup k = some true → XfM g k "given"
  xf_UnknownName_given : ∀ k, tc_UnknownName.lookup k = some true → XfM g k "given"
  tab__law_season_right : ∀ f, mg "_law_season_right" = some (.ref f) → TabM mg base g (codeVal g.K f) "_law_season_right.<locals>.<lambda>"
theorem kb_Season_add_game : KB "add" "Season.add" s_Season_add ["self", "game"] ["game"] 1 1 [0] := fun kV doc pm an cdv ct us ws h1 h2 => match us, ws, h1, h2 with | [_], [_], _, _ => rfl
theorem kb_Season_beaten_name : KB "beaten" "Season.beaten" s_Season_beaten ["self", "name"] ["name"] 1 1 [0] := fun kV doc pm an cdv ct us ws h1 h2 => match us, ws, h1, h2 with | [_], [_], _, _ => rfl
theorem kb_Season_games_name : KB "games" "Season.games" s_Season_games ["self", "name"] ["name"] 1 1 [0] := fun kV doc pm an cdv ct us ws h1 h2 => match us, ws, h1, h2 with | [_], [_], _, _ => rfl
theorem kb_Season_total_name : KB "total" "Season.total" s_Season_total ["self", "name"] ["name"] 1 1 [0] := fun kV doc pm an cdv ct us ws h1 h2 => match us, ws, h1, h2 with | [_], [_], _, _ => rfl
theorem kb_Season_wins_name : KB "wins" "Season.wins" s_Season_wins ["self", "name"] ["name"] 1 1 [0] := fun kV doc pm an cdv ct us ws h1 h2 => match us, ws, h1, h2 with | [_], [_], _, _ => rfl
theorem kb_read_season_text : KB "read_season" "read_season" s_read_season ["text"] ["text"] 0 1 [0] := fun kV doc pm an cdv ct us ws h1 h2 => match us, ws, h1, h2 with | [], [_], _, _ => rfl
theorem kb_season_text_season : KB "season_text" "season_text" s_season_text ["season"] ["season"] 0 1 [0] := fun kV doc pm an cdv ct us ws h1 h2 => match us, ws, h1, h2 with | [], [_], _, _ => rfl
section
variable {P : Program} {w : World} {mg : Str → Option Value} {base : Heap} {g : Gd}
theorem scx_InvalidText : FnScope ["self", "given"] ["self", "given"] (defScope s_x_InvalidText) := ⟨rfl, rfl, rfl, by decide +kernel, rfl, by decide +kernel, by decide +kernel⟩
theorem x_InvalidText (T : Top mg base g) : ExM P w mg base g 16 "InvalidText" "given" := ExM.mk' T.ax_InvalidText scx_InvalidText rfl rfl
theorem scx_InvalidGame : FnScope ["self", "given"] ["self", "given"] (defScope s_x_InvalidGame) := ⟨rfl, rfl, rfl, by decide +kernel, rfl, by decide +kernel, by decide +kernel⟩
theorem x_InvalidGame (T : Top mg base g) : ExM P w mg base g 18 "InvalidGame" "given" := ExM.mk' T.ax_InvalidGame scx_InvalidGame rfl rfl
theorem scx_UnknownName : FnScope ["self", "given"] ["self", "given"] (defScope s_x_UnknownName) := ⟨rfl, rfl, rfl, by decide +kernel, rfl, by decide +kernel, by decide +kernel⟩
theorem x_UnknownName (T : Top mg base g) : ExM P w mg base g 24 "UnknownName" "given" := ExM.mk' T.ax_UnknownName scx_UnknownName rfl rfl
theorem scx_DoesNotFit : FnScope ["self", "given"] ["self", "given"] (defScope s_x_DoesNotFit) := ⟨rfl, rfl, rfl, by decide +kernel, rfl, by decide +kernel, by decide +kernel⟩
theorem x_DoesNotFit (T : Top mg base g) : ExM P w mg base g 25 "DoesNotFit" "given" := ExM.mk' T.ax_DoesNotFit scx_DoesNotFit rfl rfl
theorem scx_NothingToUndo : FnScope ["self", "given"] ["self", "given"] (defScope s_x_NothingToUndo) := ⟨rfl, rfl, rfl, by decide +kernel, rfl, by decide +kernel, by decide +kernel⟩
theorem x_NothingToUndo (T : Top mg base g) : ExM P w mg base g 27 "NothingToUndo" "given" := ExM.mk' T.ax_NothingToUndo scx_NothingToUndo rfl rfl
theorem sc_is_whole : FnScope ["value"] ["value"] (defScope s_is_whole) := ⟨rfl, rfl, rfl, by decide +kernel, rfl, by decide +kernel, by decide +kernel⟩
abbrev f_is_whole : List D → MH → Res D := C.f_is_whole
theorem r_is_whole (T : Top mg base g) : FnM P w mg base g 1 "is_whole" "is_whole" s_is_whole ["value"] 1 f_is_whole :=
  (FnM.mk' T.at_is_whole sc_is_whole rfl fun f cdv A outer s H E hm hcv hr tk hp =>
    (ms_one (ms_ret (me_and rfl (me_callB (cm_isi rfl) bb_isinstance T.b_isinstance (ma_cons (me_var 0) (ma_cons (me_bltn rfl T.b_int bt_int rfl) ma_nil))) (me_one (me_not rfl (me_callB (cm_isi rfl) bb_isinstance T.b_isinstance (ma_cons (me_var 0) (ma_cons (me_bltn rfl T.b_bool bt_bool rfl) ma_nil)))))))))
theorem sc_is_between : FnScope ["value", "low", "high"] ["value", "low", "high"] (defScope s_is_between) := ⟨rfl, rfl, rfl, by decide +kernel, rfl, by decide +kernel, by decide +kernel⟩
abbrev f_is_between : List D → MH → Res D := C.f_is_between
theorem r_is_between (T : Top mg base g) : FnM P w mg base g 2 "is_between" "is_between" s_is_between ["value", "low", "high"] 3 f_is_between :=
  (FnM.mk' T.at_is_between sc_is_between rfl fun f cdv A outer s H E hm hcv hr tk hp =>
    (ms_one (ms_ret (me_and rfl (me_call rfl (r_is_whole T) (hr.mono (by decide)) tk (ma_cons (me_var 0) ma_nil)) (me_one (me_chain (om_le) (om_le) (me_var 1) (me_var 0) (me_var 2)))))))
theorem sc_is_tuple_of : FnScope ["value", "many"] ["value", "many"] (defScope s_is_tuple_of) := ⟨rfl, rfl, rfl, by decide +kernel, rfl, by decide +kernel, by decide +kernel⟩
abbrev f_is_tuple_of : List D → MH → Res D := C.f_is_tuple_of
theorem r_is_tuple_of (T : Top mg base g) : FnM P w mg base g 1 "is_tuple_of" "is_tuple_of" s_is_tuple_of ["value", "many"] 2 f_is_tuple_of :=
  (FnM.mk' T.at_is_tuple_of sc_is_tuple_of rfl fun f cdv A outer s H E hm hcv hr tk hp =>
    (ms_one (ms_ret (me_and rfl (me_callB (cm_isi rfl) bb_isinstance T.b_isinstance (ma_cons (me_var 0) (ma_cons (me_bltn rfl T.b_tuple bt_tuple rfl) ma_nil))) (me_one (me_cmp (om_eqX rfl (hu64 hr)) (me_callB (cm_len rfl) bb_len T.b_len (ma_cons (me_var 0) ma_nil)) (me_var 1)))))))
theorem sc_is_text_of : FnScope ["value", "signs", "sign"] ["value", "signs"] (defScope s_is_text_of) := ⟨rfl, rfl, rfl, by decide +kernel, rfl, by decide +kernel, by decide +kernel⟩
abbrev f_is_text_of : List D → MH → Res D := C.f_is_text_of
theorem r_is_text_of (T : Top mg base g) : FnM P w mg base g 1 "is_text_of" "is_text_of" s_is_text_of ["value", "signs"] 2 f_is_text_of :=
  (FnM.mk' T.at_is_text_of sc_is_text_of rfl fun f cdv A outer s H E hm hcv hr tk hp =>
    (ms_one (ms_ret (me_and rfl (me_callB (cm_isi rfl) bb_isinstance T.b_isinstance (ma_cons (me_var 0) (ma_cons (me_bltn rfl T.b_str bt_str rfl) ma_nil))) (me_one (me_callB (cm_all rfl) bb_all T.b_all (ma_cons (me_lc [("sign", 2)] rfl sc_is_text_of.nd (mi_any rfl (me_var 0)) (blkOk_by (by rfl)) (fun _ _ _ _ _ => (mg_name 2 sc_is_text_of.nd)) (fun _ _ _ _ _ => mts_nil) (fun _ _ _ _ _ => (me_cmp (om_in rfl (hu65 hr)) (me_var 2) (me_var 1)))) ma_nil)))))))
theorem sc_is_name : FnScope ["value"] ["value"] (defScope s_is_name) := ⟨rfl, rfl, rfl, by decide +kernel, rfl, by decide +kernel, by decide +kernel⟩
abbrev f_is_name : List D → MH → Res D := C.f_is_name
theorem r_is_name (T : Top mg base g) : FnM P w mg base g 2 "is_name" "is_name" s_is_name ["value"] 1 f_is_name :=
  (FnM.mk' T.at_is_name sc_is_name rfl fun f cdv A outer s H E hm hcv hr tk hp =>
    (ms_one (ms_ret (me_and rfl (me_call rfl (r_is_text_of T) (hr.mono (by decide)) tk (ma_cons (me_var 0) (ma_cons (me_gstr T.c_SMALL_LETTERS) ma_nil))) (me_one (me_chain (om_le) (om_le) me_int (me_callB (cm_len rfl) bb_len T.b_len (ma_cons (me_var 0) ma_nil)) (me_gint T.c_LONGEST_NAME)))))))
theorem sc_is_result : FnScope ["value"] ["value"] (defScope s_is_result) := ⟨rfl, rfl, rfl, by decide +kernel, rfl, by decide +kernel, by decide +kernel⟩
abbrev f_is_result : List D → MH → Res D := C.f_is_result
theorem r_is_result (T : Top mg base g) : FnM P w mg base g 3 "is_result" "is_result" s_is_result ["value"] 1 f_is_result :=
  (FnM.mk' T.at_is_result sc_is_result rfl fun f cdv A outer s H E hm hcv hr tk hp =>
    (ms_one (ms_ret (me_and rfl (me_call rfl (r_is_tuple_of T) (hr.mono (by decide)) tk (ma_cons (me_var 0) (ma_cons me_int ma_nil))) (me_and rfl (me_call rfl (r_is_name T) (hr.mono (by decide)) tk (ma_cons (me_ix rfl (hu1 hr) (me_var 0) me_int) ma_nil)) (me_one (me_call rfl (r_is_between T) (hr.mono (by decide)) tk (ma_cons (me_ix rfl (hu1 hr) (me_var 0) me_int) (ma_cons (me_bin (om_sub) me_int (me_gint T.c_MOST_POINTS)) (ma_cons (me_gint T.c_MOST_POINTS) ma_nil))))))))))
theorem sc_is_game : FnScope ["value", "result"] ["value"] (defScope s_is_game) := ⟨rfl, rfl, rfl, by decide +kernel, rfl, by decide +kernel, by decide +kernel⟩
abbrev f_is_game : List D → MH → Res D := C.f_is_game
theorem r_is_game (T : Top mg base g) : FnM P w mg base g 4 "is_game" "is_game" s_is_game ["value"] 1 f_is_game :=
  (FnM.mk' T.at_is_game sc_is_game rfl fun f cdv A outer s H E hm hcv hr tk hp =>
    (ms_cons (ms_if (PW.pt (mw_or (mt_not (mt_tr rfl (me_callB (cm_isi rfl) bb_isinstance T.b_isinstance (ma_cons (me_var 0) (ma_cons (me_bltn rfl T.b_tuple bt_tuple rfl) ma_nil))))) (mw_or1 (mt_not (mt_chain (om_le) (om_le) me_int (me_callB (cm_len rfl) bb_len T.b_len (ma_cons (me_var 0) ma_nil)) (me_gint T.c_MOST_PLAYERS)))))) (ms_one (ms_ret me_bl)) ms_nil) (ms_one (ms_ret (me_and rfl (me_callB (cm_all rfl) bb_all T.b_all (ma_cons (me_lc [("result", 1)] rfl sc_is_game.nd (mi_any rfl (me_var 0)) (blkOk_by (by rfl)) (fun _ _ _ _ _ => (mg_name 1 sc_is_game.nd)) (fun _ _ _ _ _ => mts_nil) (fun _ _ _ _ _ => (me_call rfl (r_is_result T) (hr.mono (by decide)) ML.takes0 (ma_cons (me_var 1) ma_nil)))) ma_nil)) (me_one (me_cmp (om_eqX rfl (hu64 hr)) (me_callB (cm_len rfl) bb_len T.b_len (ma_cons (me_callTy (cm_dict rfl rfl) bt_dict T.b_dict (ma_cons (me_var 0) ma_nil)) ma_nil)) (me_callB (cm_len rfl) bb_len T.b_len (ma_cons (me_var 0) ma_nil)))))))))
theorem sc_games_of : FnScope ["games", "name", "game"] ["games", "name"] (defScope s_games_of) := ⟨rfl, rfl, rfl, by decide +kernel, rfl, by decide +kernel, by decide +kernel⟩
abbrev f_games_of : List D → MH → Res D := C.f_games_of
theorem r_games_of (T : Top mg base g) : FnM P w mg base g 1 "games_of" "games_of" s_games_of ["games", "name"] 2 f_games_of :=
  (FnM.mk' T.at_games_of sc_games_of rfl fun f cdv A outer s H E hm hcv hr tk hp =>
    (ms_one (ms_ret (me_lc [("game", 2)] rfl sc_games_of.nd (mi_any rfl (me_var 0)) (blkOk_by (by rfl)) (fun _ _ _ _ _ => (mg_name 2 sc_games_of.nd)) (fun _ _ _ _ _ => (mts_one (mt_cmp (om_in rfl (hu65 hr)) (me_var 1) (me_callTy (cm_dict rfl rfl) bt_dict T.b_dict (ma_cons (me_var 2) ma_nil))))) (fun _ _ _ _ _ => (me_callTy (cm_dict rfl rfl) bt_dict T.b_dict (ma_cons (me_var 2) ma_nil)))))))
theorem sc_total_of : FnScope ["games", "name", "game"] ["games", "name"] (defScope s_total_of) := ⟨rfl, rfl, rfl, by decide +kernel, rfl, by decide +kernel, by decide +kernel⟩
abbrev f_total_of : List D → MH → Res D := C.f_total_of
theorem r_total_of (T : Top mg base g) : FnM P w mg base g 2 "total_of" "total_of" s_total_of ["games", "name"] 2 f_total_of :=
  (FnM.mk' T.at_total_of sc_total_of rfl fun f cdv A outer s H E hm hcv hr tk hp =>
    (ms_one (ms_ret (me_callB (cm_sumX rfl) bb_sum T.b_sum (ma_cons (me_lc [("game", 2)] rfl sc_total_of.nd (mi_any rfl (me_call rfl (r_games_of T) (hr.mono (by decide)) tk (ma_cons (me_var 0) (ma_cons (me_var 1) ma_nil)))) (blkOk_by (by rfl)) (fun _ _ _ _ _ => (mg_name 2 sc_total_of.nd)) (fun _ _ _ _ _ => mts_nil) (fun _ _ _ _ _ => (me_ix rfl (hu1 hr) (me_var 2) (me_var 1)))) ma_nil)))))
theorem sc_wins_of : FnScope ["games", "name", "game"] ["games", "name"] (defScope s_wins_of) := ⟨rfl, rfl, rfl, by decide +kernel, rfl, by decide +kernel, by decide +kernel⟩
abbrev f_wins_of : List D → MH → Res D := C.f_wins_of
theorem r_wins_of (T : Top mg base g) : FnM P w mg base g 2 "wins_of" "wins_of" s_wins_of ["games", "name"] 2 f_wins_of :=
  (FnM.mk' T.at_wins_of sc_wins_of rfl fun f cdv A outer s H E hm hcv hr tk hp =>
    (ms_one (ms_ret (me_callB (cm_len rfl) bb_len T.b_len (ma_cons (me_lc [("game", 2)] rfl sc_wins_of.nd (mi_any rfl (me_call rfl (r_games_of T) (hr.mono (by decide)) tk (ma_cons (me_var 0) (ma_cons (me_var 1) ma_nil)))) (blkOk_by (by rfl)) (fun _ _ _ _ _ => (mg_name 2 sc_wins_of.nd)) (fun _ _ _ _ _ => (mts_one (mt_cmp (om_eqX rfl (hu64 hr)) (me_ix rfl (hu1 hr) (me_var 2) (me_var 1)) (me_maxVals rfl T.b_max (me_var 2))))) (fun _ _ _ _ _ => me_int)) ma_nil)))))
theorem sc_names_in : FnScope ["games", "game", "name", "points"] ["games"] (defScope s_names_in) := ⟨rfl, rfl, rfl, by decide +kernel, rfl, by decide +kernel, by decide +kernel⟩
abbrev f_names_in : List D → MH → Res D := C.f_names_in
theorem r_names_in (T : Top mg base g) : FnM P w mg base g 1 "names_in" "names_in" s_names_in ["games"] 1 f_names_in :=
  (FnM.mk' T.at_names_in sc_names_in rfl fun f cdv A outer s H E hm hcv hr tk hp =>
    (ms_one (ms_ret (me_callB (cm_sortedX rfl rfl (hu64 hr)) bb_sorted T.b_sorted (ma_cons (me_dc2 [("game", 1), ("name", 2), ("points", 3)] [2, 3] rfl sc_names_in.nd (mi_any rfl (me_var 0)) (blkOk_by (by rfl)) (fun _ _ _ _ _ => (mg_name 1 sc_names_in.nd)) (fun _ _ _ _ _ => mts_nil) (fun _ _ _ _ _ => (mi_any rfl (me_var 1))) (fun _ _ _ _ _ => (mg_tup 2 rfl rfl (mgs_cons (mg_name 2 sc_names_in.nd) (mgs_cons (mg_name 3 sc_names_in.nd) mgs_nil)))) (fun _ _ _ _ _ => mts_nil) (fun _ _ _ _ _ => (me_var 2)) (fun _ _ _ _ _ => me_bl)) ma_nil)))))
theorem sc_standing_of : FnScope ["games", "rows", "name", "total", "wins"] ["games"] (defScope s_standing_of) := ⟨rfl, rfl, rfl, by decide +kernel, rfl, by decide +kernel, by decide +kernel⟩
abbrev f_standing_of : List D → MH → Res D := C.f_standing_of
theorem r_standing_of (T : Top mg base g) : FnM P w mg base g 3 "standing_of" "standing_of" s_standing_of ["games"] 1 f_standing_of :=
  (FnM.mk' T.at_standing_of sc_standing_of rfl fun f cdv A outer s H E hm hcv hr tk hp =>
    (ms_cons (ms_setLc 1 [("name", 2)] rfl sc_standing_of.nd (mi_any rfl (me_call rfl (r_names_in T) (hr.mono (by decide)) tk (ma_cons (me_var 0) ma_nil))) (blkOk_by (by rfl)) (fun _ _ _ _ _ => (mg_name 2 sc_standing_of.nd)) (fun _ _ _ _ _ => mts_nil) (fun _ _ _ _ _ => (me_tup (ma_cons (me_bin (om_sub) me_int (me_call rfl (r_total_of T) (hr.mono (by decide)) ML.takes0 (ma_cons (me_var 0) (ma_cons (me_var 2) ma_nil)))) (ma_cons (me_var 2) (ma_cons (me_call rfl (r_wins_of T) (hr.mono (by decide)) ML.takes0 (ma_cons (me_var 0) (ma_cons (me_var 2) ma_nil))) ma_nil)))))) (ms_one (ms_ret (me_lc [("total", 3), ("name", 2), ("wins", 4)] rfl sc_standing_of.nd (mi_any rfl (me_callB (cm_sortedX rfl rfl (hu64 hr)) bb_sorted T.b_sorted (ma_cons (me_var 1) ma_nil))) (blkOk_by (by rfl)) (fun _ _ _ _ _ => (mg_tup 3 rfl rfl (mgs_cons (mg_name 3 sc_standing_of.nd) (mgs_cons (mg_name 2 sc_standing_of.nd) (mgs_cons (mg_name 4 sc_standing_of.nd) mgs_nil))))) (fun _ _ _ _ _ => mts_nil) (fun _ _ _ _ _ => (me_tup (ma_cons (me_var 2) (ma_cons (me_bin (om_sub) me_int (me_var 3)) (ma_cons (me_var 4) ma_nil))))))))))
theorem sc_has_beaten : FnScope ["games", "name", "other", "both", "game"] ["games", "name", "other"] (defScope s_has_beaten) := ⟨rfl, rfl, rfl, by decide +kernel, rfl, by decide +kernel, by decide +kernel⟩
abbrev f_has_beaten : List D → MH → Res D := C.f_has_beaten
theorem r_has_beaten (T : Top mg base g) : FnM P w mg base g 2 "has_beaten" "has_beaten" s_has_beaten ["games", "name", "other"] 3 f_has_beaten :=
  (FnM.mk' T.at_has_beaten sc_has_beaten rfl fun f cdv A outer s H E hm hcv hr tk hp =>
    (ms_cons (ms_setLc 3 [("game", 4)] rfl sc_has_beaten.nd (mi_any rfl (me_call rfl (r_games_of T) (hr.mono (by decide)) tk (ma_cons (me_var 0) (ma_cons (me_var 1) ma_nil)))) (blkOk_by (by rfl)) (fun _ _ _ _ _ => (mg_name 4 sc_has_beaten.nd)) (fun _ _ _ _ _ => (mts_one (mt_cmp (om_in rfl (hu65 hr)) (me_var 2) (me_var 4)))) (fun _ _ _ _ _ => (me_var 4))) (ms_one (ms_ret (me_and rfl (me_cmp (om_neX rfl (hu64 hr)) (me_var 1) (me_var 2)) (me_and rfl (me_cmp (om_neX rfl (hu64 hr)) (me_var 3) (me_lst ma_nil)) (me_one (me_callB (cm_all rfl) bb_all T.b_all (ma_cons (me_lc [("game", 4)] rfl sc_has_beaten.nd (mi_any rfl (me_var 3)) (blkOk_by (by rfl)) (fun _ _ _ _ _ => (mg_name 4 sc_has_beaten.nd)) (fun _ _ _ _ _ => mts_nil) (fun _ _ _ _ _ => (me_cmp (om_gt) (me_ix rfl (hu1 hr) (me_var 4) (me_var 1)) (me_ix rfl (hu1 hr) (me_var 4) (me_var 2))))) ma_nil)))))))))
theorem sc_Season_init : FnScope ["self"] ["self"] (defScope s_Season_init) := ⟨rfl, rfl, rfl, by decide +kernel, rfl, by decide +kernel, by decide +kernel⟩
abbrev f_Season_init : List D → MH → Res D := C.f_Season_init
theorem r_Season_init (T : Top mg base g) : MkM P w mg base g 1 45 "Season" "Season.__init__" s_Season_init ["self"] 1 f_Season_init :=
  MkM.mk' T.ai_Season sc_Season_init rfl fun f cdv A outer s H E hcv hr tk hp =>
    (ms_one (ms_fldM rfl T.f_Season_kept (me_var 0) (me_tup ma_nil)))
theorem sc_Season_need : FnScope ["self", "name"] ["self", "name"] (defScope s_Season_need) := ⟨rfl, rfl, rfl, by decide +kernel, rfl, by decide +kernel, by decide +kernel⟩
abbrev f_Season_need : List D → MH → Res D := C.f_Season_need
theorem r_Season_need (T : Top mg base g) : MeM P w mg base g 3 45 "need" "Season.need" s_Season_need ["self", "name"] 2 f_Season_need :=
  (MeM.mk' T.am_Season_need sc_Season_need rfl fun f cdv A outer s H E hcv hr tk hp =>
    (ms_one (ms_if (PW.pt (mw_or (mt_not (mt_tr rfl (me_callB (cm_isi rfl) bb_isinstance T.b_isinstance (ma_cons (me_var 1) (ma_cons (me_bltn rfl T.b_str bt_str rfl) ma_nil))))) (mw_or1 (mt_cmp (om_notIn rfl (hu65 hr)) (me_var 1) (me_call rfl (r_names_in T) (hr.mono (by decide)) tk (ma_cons (me_fldM rfl T.f_Season_kept (me_var 0)) ma_nil)))))) (ms_one (ms_raise rfl (x_UnknownName T) rfl tk (hr.mono (by decide)) (me_var 1))) ms_nil)))
theorem sc_Season_add : FnScope ["self", "game"] ["self", "game"] (defScope s_Season_add) := ⟨rfl, rfl, rfl, by decide +kernel, rfl, by decide +kernel, by decide +kernel⟩
abbrev f_Season_add : List D → MH → Res D := C.f_Season_add
theorem r_Season_add (T : Top mg base g) : MeM P w mg base g 5 45 "add" "Season.add" s_Season_add ["self", "game"] 2 f_Season_add :=
  (MeM.mk' T.am_Season_add sc_Season_add rfl fun f cdv A outer s H E hcv hr tk hp =>
    (ms_cons (ms_if (PW.pt (mw_or (mt_not (mt_tr rfl (me_call rfl (r_is_game T) (hr.mono (by decide)) tk (ma_cons (me_var 1) ma_nil)))) (mw_or1 (mt_cmp (om_eqX rfl (hu64 hr)) (me_callB (cm_len rfl) bb_len T.b_len (ma_cons (me_fldM rfl T.f_Season_kept (me_var 0)) ma_nil)) (me_gint T.c_MOST_GAMES))))) (ms_one (ms_raise rfl (x_InvalidGame T) rfl tk (hr.mono (by decide)) (me_var 1))) ms_nil) (ms_one (ms_fldM rfl T.f_Season_kept (me_var 0) (me_bin (om_add rfl) (me_fldM rfl T.f_Season_kept (me_var 0)) (me_tup (ma_cons (me_var 1) ma_nil)))))))
theorem sc_Season_undo : FnScope ["self"] ["self"] (defScope s_Season_undo) := ⟨rfl, rfl, rfl, by decide +kernel, rfl, by decide +kernel, by decide +kernel⟩
abbrev f_Season_undo : List D → MH → Res D := C.f_Season_undo
theorem r_Season_undo (T : Top mg base g) : MeM P w mg base g 3 45 "undo" "Season.undo" s_Season_undo ["self"] 1 f_Season_undo :=
  (MeM.mk' T.am_Season_undo sc_Season_undo rfl fun f cdv A outer s H E hcv hr tk hp =>
    (ms_cons (ms_if (mt_cmp (om_eqX rfl (hu64 hr)) (me_fldM rfl T.f_Season_kept (me_var 0)) (me_tup ma_nil)) (ms_one (ms_raise rfl (x_NothingToUndo T) rfl tk (hr.mono (by decide)) me_int)) ms_nil) (ms_one (ms_fldM rfl T.f_Season_kept (me_var 0) (me_slice rfl (me_fldM rfl T.f_Season_kept (me_var 0)) mo_none (mo_some (me_neg me_int)))))))
theorem sc_Season_total : FnScope ["self", "name"] ["self", "name"] (defScope s_Season_total) := ⟨rfl, rfl, rfl, by decide +kernel, rfl, by decide +kernel, by decide +kernel⟩
abbrev f_Season_total : List D → MH → Res D := C.f_Season_total
theorem r_Season_total (T : Top mg base g) : MeM P w mg base g 4 45 "total" "Season.total" s_Season_total ["self", "name"] 2 f_Season_total :=
  (MeM.mk' T.am_Season_total sc_Season_total rfl fun f cdv A outer s H E hcv hr tk hp =>
    (ms_cons (ms_expr (me_meth rfl (r_Season_need T) (hr.mono (by decide)) tk (me_var 0) (ma_cons (me_var 1) ma_nil))) (ms_one (ms_ret (me_call rfl (r_total_of T) (hr.mono (by decide)) tk (ma_cons (me_fldM rfl T.f_Season_kept (me_var 0)) (ma_cons (me_var 1) ma_nil)))))))
theorem sc_Season_wins : FnScope ["self", "name"] ["self", "name"] (defScope s_Season_wins) := ⟨rfl, rfl, rfl, by decide +kernel, rfl, by decide +kernel, by decide +kernel⟩
abbrev f_Season_wins : List D → MH → Res D := C.f_Season_wins
theorem r_Season_wins (T : Top mg base g) : MeM P w mg base g 4 45 "wins" "Season.wins" s_Season_wins ["self", "name"] 2 f_Season_wins :=
  (MeM.mk' T.am_Season_wins sc_Season_wins rfl fun f cdv A outer s H E hcv hr tk hp =>
    (ms_cons (ms_expr (me_meth rfl (r_Season_need T) (hr.mono (by decide)) tk (me_var 0) (ma_cons (me_var 1) ma_nil))) (ms_one (ms_ret (me_call rfl (r_wins_of T) (hr.mono (by decide)) tk (ma_cons (me_fldM rfl T.f_Season_kept (me_var 0)) (ma_cons (me_var 1) ma_nil)))))))
theorem sc_Season_games : FnScope ["self", "name"] ["self", "name"] (defScope s_Season_games) := ⟨rfl, rfl, rfl, by decide +kernel, rfl, by decide +kernel, by decide +kernel⟩
abbrev f_Season_games : List D → MH → Res D := C.f_Season_games
theorem r_Season_games (T : Top mg base g) : MeM P w mg base g 4 45 "games" "Season.games" s_Season_games ["self", "name"] 2 f_Season_games :=
  (MeM.mk' T.am_Season_games sc_Season_games rfl fun f cdv A outer s H E hcv hr tk hp =>
    (ms_cons (ms_expr (me_meth rfl (r_Season_need T) (hr.mono (by decide)) tk (me_var 0) (ma_cons (me_var 1) ma_nil))) (ms_one (ms_ret (me_callB (cm_len rfl) bb_len T.b_len (ma_cons (me_call rfl (r_games_of T) (hr.mono (by decide)) tk (ma_cons (me_fldM rfl T.f_Season_kept (me_var 0)) (ma_cons (me_var 1) ma_nil))) ma_nil))))))
theorem sc_Season_standing : FnScope ["self"] ["self"] (defScope s_Season_standing) := ⟨rfl, rfl, rfl, by decide +kernel, rfl, by decide +kernel, by decide +kernel⟩
abbrev f_Season_standing : List D → MH → Res D := C.f_Season_standing
theorem r_Season_standing (T : Top mg base g) : MeM P w mg base g 4 45 "standing" "Season.standing" s_Season_standing ["self"] 1 f_Season_standing :=
  (MeM.mk' T.am_Season_standing sc_Season_standing rfl fun f cdv A outer s H E hcv hr tk hp =>
    (ms_one (ms_ret (me_callTy (cm_tuple rfl) bt_tuple T.b_tuple (ma_cons (me_call rfl (r_standing_of T) (hr.mono (by decide)) tk (ma_cons (me_fldM rfl T.f_Season_kept (me_var 0)) ma_nil)) ma_nil)))))
theorem sc_Season_beaten : FnScope ["self", "name", "other"] ["self", "name"] (defScope s_Season_beaten) := ⟨rfl, rfl, rfl, by decide +kernel, rfl, by decide +kernel, by decide +kernel⟩
abbrev f_Season_beaten : List D → MH → Res D := C.f_Season_beaten
theorem r_Season_beaten (T : Top mg base g) : MeM P w mg base g 4 45 "beaten" "Season.beaten" s_Season_beaten ["self", "name"] 2 f_Season_beaten :=
  (MeM.mk' T.am_Season_beaten sc_Season_beaten rfl fun f cdv A outer s H E hcv hr tk hp =>
    (ms_cons (ms_expr (me_meth rfl (r_Season_need T) (hr.mono (by decide)) tk (me_var 0) (ma_cons (me_var 1) ma_nil))) (ms_one (ms_ret (me_callTy (cm_tuple rfl) bt_tuple T.b_tuple (ma_cons (me_lc [("other", 2)] rfl sc_Season_beaten.nd (mi_any rfl (me_call rfl (r_names_in T) (hr.mono (by decide)) tk (ma_cons (me_fldM rfl T.f_Season_kept (me_var 0)) ma_nil))) (blkOk_by (by rfl)) (fun _ _ _ _ _ => (mg_name 2 sc_Season_beaten.nd)) (fun _ _ _ _ _ => (mts_one (mt_tr rfl (me_call rfl (r_has_beaten T) (hr.mono (by decide)) ML.takes0 (ma_cons (me_fldM rfl T.f_Season_kept (me_var 0)) (ma_cons (me_var 1) (ma_cons (me_var 2) ma_nil))))))) (fun _ _ _ _ _ => (me_var 2))) ma_nil))))))
theorem sc_points_told : FnScope ["word", "figures", "sign"] ["word"] (defScope s_points_told) := ⟨rfl, rfl, rfl, by decide +kernel, rfl, by decide +kernel, by decide +kernel⟩
abbrev f_points_told : List D → MH → Res D := C.f_points_told
theorem r_points_told (T : Top mg base g) : FnM P w mg base g 1 "points_told" "points_told" s_points_told ["word"] 1 f_points_told :=
  (FnM.mk' T.at_points_told sc_points_told rfl fun f cdv A outer s H E hm hcv hr tk hp =>
    (ms_cons (ms_set 1 sc_points_told.nd (me_if (mt_cmp (om_eqX rfl (hu64 hr)) (me_slice rfl (me_var 0) mo_none (mo_some me_int)) (me_gstr T.c_MINUS)) (me_slice rfl (me_var 0) (mo_some me_int) mo_none) (me_var 0))) (ms_cons (ms_if (PW.pt (mw_or (mt_cmp (om_eqX rfl (hu64 hr)) (me_var 1) me_str) (mw_or1 (mt_not (mt_tr rfl (me_callB (cm_all rfl) bb_all T.b_all (ma_cons (me_lc [("sign", 2)] rfl sc_points_told.nd (mi_any rfl (me_var 1)) (blkOk_by (by rfl)) (fun _ _ _ _ _ => (mg_name 2 sc_points_told.nd)) (fun _ _ _ _ _ => mts_nil) (fun _ _ _ _ _ => (me_cmp (om_in rfl (hu65 hr)) (me_var 2) (me_gstr T.c_DIGITS)))) ma_nil))))))) (ms_one (ms_ret me_non)) ms_nil) (ms_cons (ms_if (PW.pt (mw_and (mt_cmp (om_eqX rfl (hu64 hr)) (me_ix rfl (hu1 hr) (me_var 1) me_int) me_str) (mw_and1 (PW.pt (mw_or (mt_cmp (om_gt) (me_callB (cm_len rfl) bb_len T.b_len (ma_cons (me_var 1) ma_nil)) me_int) (mw_or1 (mt_cmp (om_neX rfl (hu64 hr)) (me_var 0) (me_var 1)))))))) (ms_one (ms_ret me_non)) ms_nil) (ms_one (ms_ret (me_callTy (cm_int) bt_int T.b_int (ma_cons (me_var 0) ma_nil))))))))
theorem sc_result_told : FnScope ["word", "name", "points"] ["word"] (defScope s_result_told) := ⟨rfl, rfl, rfl, by decide +kernel, rfl, by decide +kernel, by decide +kernel⟩
abbrev f_result_told : List D → MH → Res D := C.f_result_told
theorem r_result_told (T : Top mg base g) : FnM P w mg base g 2 "result_told" "result_told" s_result_told ["word"] 1 f_result_told :=
  (FnM.mk' T.at_result_told sc_result_told rfl fun f cdv A outer s H E hm hcv hr tk hp =>
    (ms_cons (ms_if (mt_cmp (om_neX rfl (hu64 hr)) (me_bm rfl (mm_count) F.plainAttrs_str F.slot_str_count F.type_str_count (me_var 0) (ma_cons (me_gstr T.c_COLON) ma_nil)) me_int) (ms_one (ms_ret me_non)) ms_nil) (ms_cons (ms_asg [1, 2] (me_bm rfl (mm_split) F.plainAttrs_str F.slot_str_split F.type_str_split (me_var 0) (ma_cons (me_gstr T.c_COLON) ma_nil)) (mg_lst 2 rfl rfl (mgs_cons (mg_name 1 sc_result_told.nd) (mgs_cons (mg_name 2 sc_result_told.nd) mgs_nil)))) (ms_one (ms_ret (me_tup (ma_cons (me_var 1) (ma_cons (me_call rfl (r_points_told T) (hr.mono (by decide)) tk (ma_cons (me_var 2) ma_nil)) ma_nil))))))))
theorem sc_text_of_game : FnScope ["game", "name", "points"] ["game"] (defScope s_text_of_game) := ⟨rfl, rfl, rfl, by decide +kernel, rfl, by decide +kernel, by decide +kernel⟩
abbrev f_text_of_game : List D → MH → Res D := C.f_text_of_game
theorem r_text_of_game (T : Top mg base g) : FnM P w mg base g 1 "text_of_game" "text_of_game" s_text_of_game ["game"] 1 f_text_of_game :=
  (FnM.mk' T.at_text_of_game sc_text_of_game rfl fun f cdv A outer s H E hm hcv hr tk hp =>
    (ms_one (ms_ret (me_bm rfl (mm_join rfl) F.plainAttrs_str F.slot_str_join F.type_str_join (me_gstr T.c_BLANK) (ma_cons (me_lc [("name", 1), ("points", 2)] rfl sc_text_of_game.nd (mi_any rfl (me_var 0)) (blkOk_by (by rfl)) (fun _ _ _ _ _ => (mg_tup 2 rfl rfl (mgs_cons (mg_name 1 sc_text_of_game.nd) (mgs_cons (mg_name 2 sc_text_of_game.nd) mgs_nil)))) (fun _ _ _ _ _ => mts_nil) (fun _ _ _ _ _ => (me_joined (.cons (me_fmt (me_var 1)) (.cons (me_fmt (me_gstr T.c_COLON)) (.cons (me_fmt (me_var 2)) .nil)))))) ma_nil)))))
theorem sc_text_of_games : FnScope ["games", "game"] ["games"] (defScope s_text_of_games) := ⟨rfl, rfl, rfl, by decide +kernel, rfl, by decide +kernel, by decide +kernel⟩
abbrev f_text_of_games : List D → MH → Res D := C.f_text_of_games
theorem r_text_of_games (T : Top mg base g) : FnM P w mg base g 2 "text_of_games" "text_of_games" s_text_of_games ["games"] 1 f_text_of_games :=
  (FnM.mk' T.at_text_of_games sc_text_of_games rfl fun f cdv A outer s H E hm hcv hr tk hp =>
    (ms_one (ms_ret (me_if (mt_cmp (om_neX rfl (hu64 hr)) (me_var 0) (me_tup ma_nil)) (me_bm rfl (mm_join rfl) F.plainAttrs_str F.slot_str_join F.type_str_join (me_gstr T.c_LINE_END) (ma_cons (me_lc [("game", 1)] rfl sc_text_of_games.nd (mi_any rfl (me_var 0)) (blkOk_by (by rfl)) (fun _ _ _ _ _ => (mg_name 1 sc_text_of_games.nd)) (fun _ _ _ _ _ => mts_nil) (fun _ _ _ _ _ => (me_call rfl (r_text_of_game T) (hr.mono (by decide)) ML.takes0 (ma_cons (me_var 1) ma_nil)))) ma_nil)) (me_gstr T.c_NO_GAMES)))))
theorem sc_games_told : FnScope ["text", "most", "lines", "found", "line", "word", "game"] ["text", "most"] (defScope s_games_told) := ⟨rfl, rfl, rfl, by decide +kernel, rfl, by decide +kernel, by decide +kernel⟩
abbrev f_games_told : List D → MH → Res D := C.f_games_told
theorem r_games_told (T : Top mg base g) : FnM P w mg base g 5 "games_told" "games_told" s_games_told ["text", "most"] 2 f_games_told :=
  (FnM.mk' T.at_games_told sc_games_told rfl fun f cdv A outer s H E hm hcv hr tk hp =>
    (ms_cons (ms_if (mt_not (mt_tr rfl (me_callB (cm_isi rfl) bb_isinstance T.b_isinstance (ma_cons (me_var 0) (ma_cons (me_bltn rfl T.b_str bt_str rfl) ma_nil))))) (ms_one (ms_ret me_non)) ms_nil) (ms_cons (ms_set 2 sc_games_told.nd (me_if (mt_cmp (om_neX rfl (hu64 hr)) (me_var 0) (me_gstr T.c_NO_GAMES)) (me_bm rfl (mm_split) F.plainAttrs_str F.slot_str_split F.type_str_split (me_var 0) (ma_cons (me_gstr T.c_LINE_END) ma_nil)) (me_lst ma_nil))) (ms_cons (ms_set 3 sc_games_told.nd (me_callTy (cm_tuple rfl) bt_tuple T.b_tuple (ma_cons (me_lc [("line", 4)] rfl sc_games_told.nd (mi_any rfl (me_var 2)) (blkOk_by (by rfl)) (fun _ _ _ _ _ => (mg_name 4 sc_games_told.nd)) (fun _ _ _ _ _ => mts_nil) (fun _ _ _ _ _ => (me_callTy (cm_tuple rfl) bt_tuple T.b_tuple (ma_cons (me_lc [("word", 5)] rfl sc_games_told.nd (mi_any rfl (me_bm rfl (mm_split) F.plainAttrs_str F.slot_str_split F.type_str_split (me_var 4) (ma_cons (me_gstr T.c_BLANK) ma_nil))) (blkOk_by (by rfl)) (fun _ _ _ _ _ => (mg_name 5 sc_games_told.nd)) (fun _ _ _ _ _ => mts_nil) (fun _ _ _ _ _ => (me_call rfl (r_result_told T) (hr.mono (by decide)) ML.takes0 (ma_cons (me_var 5) ma_nil)))) ma_nil)))) ma_nil))) (ms_one (ms_ret (me_if (PW.pt (mw_and (mt_cmp (om_le) (me_callB (cm_len rfl) bb_len T.b_len (ma_cons (me_var 3) ma_nil)) (me_var 1)) (mw_and1 (mt_tr rfl (me_callB (cm_all rfl) bb_all T.b_all (ma_cons (me_lc [("game", 6)] rfl sc_games_told.nd (mi_any rfl (me_var 3)) (blkOk_by (by rfl)) (fun _ _ _ _ _ => (mg_name 6 sc_games_told.nd)) (fun _ _ _ _ _ => mts_nil) (fun _ _ _ _ _ => (me_call rfl (r_is_game T) (hr.mono (by decide)) ML.takes0 (ma_cons (me_var 6) ma_nil)))) ma_nil)))))) (me_var 3) me_non)))))))
theorem sc_check_told : FnScope ["found", "text"] ["found", "text"] (defScope s_check_told) := ⟨rfl, rfl, rfl, by decide +kernel, rfl, by decide +kernel, by decide +kernel⟩
abbrev f_check_told : List D → MH → Res D := C.f_check_told
theorem r_check_told (T : Top mg base g) : FnM P w mg base g 3 "check_told" "check_told" s_check_told ["found", "text"] 2 f_check_told :=
  (FnM.mk' T.at_check_told sc_check_told rfl fun f cdv A outer s H E hm hcv hr tk hp =>
    (ms_one (ms_if (mt_cmp (om_is) (me_var 0) me_non) (ms_one (ms_raise rfl (x_InvalidText T) rfl tk (hr.mono (by decide)) (me_var 1))) ms_nil)))
theorem sc_season_text : FnScope ["season"] ["season"] (defScope s_season_text) := ⟨rfl, rfl, rfl, by decide +kernel, rfl, by decide +kernel, by decide +kernel⟩
abbrev f_season_text : List D → MH → Res D := C.f_season_text
theorem r_season_text (T : Top mg base g) : FnM P w mg base g 3 "season_text" "season_text" s_season_text ["season"] 1 f_season_text :=
  (FnM.mk' T.at_season_text sc_season_text rfl fun f cdv A outer s H E hm hcv hr tk hp =>
    (ms_cons (ms_if (mt_not (mt_tr rfl (me_isOwn rfl T.is_Season (me_var 0) rfl T.b_isinstance))) (ms_one (ms_raise rfl (x_DoesNotFit T) rfl tk (hr.mono (by decide)) (me_var 0))) ms_nil) (ms_one (ms_ret (me_call rfl (r_text_of_games T) (hr.mono (by decide)) tk (ma_cons (me_fldM rfl T.f_Season_kept (me_var 0)) ma_nil))))))
theorem sc_read_season : FnScope ["text", "found"] ["text"] (defScope s_read_season) := ⟨rfl, rfl, rfl, by decide +kernel, rfl, by decide +kernel, by decide +kernel⟩
abbrev f_read_season : List D → MH → Res D := C.f_read_season
theorem r_read_season (T : Top mg base g) : FnM P w mg base g 6 "read_season" "read_season" s_read_season ["text"] 1 f_read_season :=
  (FnM.mk' T.at_read_season sc_read_season rfl fun f cdv A outer s H E hm hcv hr tk hp =>
    (ms_cons (ms_set 1 sc_read_season.nd (me_call rfl (r_games_told T) (hr.mono (by decide)) tk (ma_cons (me_var 0) (ma_cons (me_gint T.c_MOST_GAMES) ma_nil)))) (ms_cons (ms_expr (me_call rfl (r_check_told T) (hr.mono (by decide)) tk (ma_cons (me_var 1) (ma_cons (me_var 0) ma_nil)))) (ms_one (ms_ret (me_var 1))))))
theorem sc__law_mill : FnScope ["script", "lap", "far", "left", "right", "place", "cell"] ["script", "lap"] (defScope s__law_mill) := ⟨rfl, rfl, rfl, by decide +kernel, rfl, by decide +kernel, by decide +kernel⟩
abbrev f__law_mill : List D → MH → Res D := C.f__law_mill
theorem r__law_mill (T : Top mg base g) : FnM P w mg base g 1 "_law_mill" "_law_mill" s__law_mill ["script", "lap"] 2 f__law_mill :=
  (FnM.mk' T.at__law_mill sc__law_mill rfl fun f cdv A outer s H E hm hcv hr tk hp =>
    (ms_cons (ms_par 3 4 rfl sc__law_mill.nd (me_bin (om_add rfl) me_int (me_bin (om_mul) me_int (me_var 1))) (me_bin (om_add rfl) me_int (me_bin (om_mul) me_int (me_var 1)))) (ms_cons (ms_for [5, 6] hp rfl (mi_enum rfl rfl T.b_enumerate (ma_cons (me_slice rfl (me_var 0) mo_none (mo_some me_int)) ma_nil)) (mgP_tup 2 rfl rfl (mgs_cons (mg_name 5 sc__law_mill.nd) (mgs_cons (mg_name 6 sc__law_mill.nd) mgs_nil))) (ms_cons (ms_set 3 sc__law_mill.nd (me_bin (om_mod) (me_callTy (cm_int) bt_int T.b_int (ma_cons (me_bin (om_add rfl) (me_bin (om_add rfl) (me_bin (om_mul) (me_var 3) me_int) (me_bin (om_mod) (me_callTy (cm_int) bt_int T.b_int (ma_cons (me_var 6) ma_nil)) me_int)) (me_bin (om_mul) me_int (me_var 5))) ma_nil)) me_int)) (ms_one (ms_set 4 sc__law_mill.nd (me_bin (om_mod) (me_callTy (cm_int) bt_int T.b_int (ma_cons (me_bin (om_add rfl) (me_bin (om_add rfl) (me_bin (om_mul) (me_var 4) me_int) (me_bin (om_mod) (me_callTy (cm_int) bt_int T.b_int (ma_cons (me_var 6) ma_nil)) me_int)) (me_var 1)) ma_nil)) me_int))))) (ms_cons (ms_set 2 sc__law_mill.nd (me_if (mt_cmp (om_lt) (me_var 1) (me_callB (cm_len rfl) bb_len T.b_len (ma_cons (me_var 0) ma_nil))) (me_callB (cm_abs) bb_abs T.b_abs (ma_cons (me_callTy (cm_int) bt_int T.b_int (ma_cons (me_ix rfl (hu1 hr) (me_var 0) (me_var 1)) ma_nil)) ma_nil)) me_int)) (ms_one (ms_ret (me_lstN (ma_cons (me_if (mt_cmp (om_gt) (me_var 2) (me_bin (om_pow) me_int me_int)) (me_bin (om_mod) (me_callTy (cm_int) bt_int T.b_int (ma_cons (me_var 2) ma_nil)) (me_bin (om_pow) me_int me_int)) me_int) (ma_cons (me_var 3) (ma_cons (me_var 4) ma_nil))))))))))
theorem sc__law_grind : FnScope ["mill", "many", "figure"] ["mill", "many"] (defScope s__law_grind) := ⟨rfl, rfl, rfl, by decide +kernel, rfl, by decide +kernel, by decide +kernel⟩
abbrev f__law_grind : List D → MH → Res D := C.f__law_grind
theorem r__law_grind (T : Top mg base g) : FnM P w mg base g 1 "_law_grind" "_law_grind" s__law_grind ["mill", "many"] 2 f__law_grind :=
  (FnM.mk' T.at__law_grind sc__law_grind rfl fun f cdv A outer s H E hm hcv hr tk hp =>
    (ms_cons (ms_if (mt_cmp (om_gt) (me_ix rfl (hu1 hr) (me_var 0) me_int) me_int) (ms_cons (ms_asg [2] (me_callB (cm_divmod) bb_divmod T.b_divmod (ma_cons (me_ix rfl (hu1 hr) (me_var 0) me_int) (ma_cons (me_var 1) ma_nil))) (mg_tup 2 rfl rfl (mgs_cons (mg_sub (W := noW) (me_var 0) me_int) (mgs_cons (mg_name 2 sc__law_grind.nd) mgs_nil)))) (ms_one (ms_ret (me_var 2)))) ms_nil) (ms_cons (ms_asg [] (me_bin (om_mod) (me_callTy (cm_int) bt_int T.b_int (ma_cons (me_bin (om_add rfl) (me_bin (om_mul) (me_ix rfl (hu1 hr) (me_var 0) me_int) me_int) me_int) ma_nil)) me_int) (mg_sub (W := noW) (me_var 0) me_int)) (ms_cons (ms_asg [] (me_bin (om_mod) (me_callTy (cm_int) bt_int T.b_int (ma_cons (me_bin (om_add rfl) (me_bin (om_mul) (me_ix rfl (hu1 hr) (me_var 0) me_int) me_int) me_int) ma_nil)) me_int) (mg_sub (W := noW) (me_var 0) me_int)) (ms_one (ms_ret (me_bin (om_mod) (me_callTy (cm_int) bt_int T.b_int (ma_cons (me_bin (om_add rfl) (me_bin (om_fdiv) (me_ix rfl (hu1 hr) (me_var 0) me_int) me_int) (me_bin (om_fdiv) (me_ix rfl (hu1 hr) (me_var 0) me_int) me_int)) ma_nil)) (me_var 1))))))))
theorem sc__law_among : FnScope ["mill", "things"] ["mill", "things"] (defScope s__law_among) := ⟨rfl, rfl, rfl, by decide +kernel, rfl, by decide +kernel, by decide +kernel⟩
abbrev f__law_among : List D → MH → Res D := C.f__law_among
theorem r__law_among (T : Top mg base g) : FnM P w mg base g 2 "_law_among" "_law_among" s__law_among ["mill", "things"] 2 f__law_among :=
  (FnM.mk' T.at__law_among sc__law_among rfl fun f cdv A outer s H E hm hcv hr tk hp =>
    (ms_one (ms_ret (me_ix rfl (hu1 hr) (me_var 1) (me_call rfl (r__law_grind T) (hr.mono (by decide)) tk (ma_cons (me_var 0) (ma_cons (me_callB (cm_len rfl) bb_len T.b_len (ma_cons (me_var 1) ma_nil)) ma_nil)))))))
theorem sc__law_shuffled : FnScope ["mill", "things", "turn", "left", "found"] ["mill", "things"] (defScope s__law_shuffled) := ⟨rfl, rfl, rfl, by decide +kernel, rfl, by decide +kernel, by decide +kernel⟩
abbrev f__law_shuffled : List D → MH → Res D := C.f__law_shuffled
theorem r__law_shuffled (T : Top mg base g) : FnM P w mg base g 2 "_law_shuffled" "_law_shuffled" s__law_shuffled ["mill", "things"] 2 f__law_shuffled :=
  (FnM.mk' T.at__law_shuffled sc__law_shuffled rfl fun f cdv A outer s H E hm hcv hr tk hp =>
    (ms_cons (ms_par 3 4 rfl sc__law_shuffled.nd (me_callTy (cm_listN rfl rfl) bt_list T.b_list (ma_cons (me_var 1) ma_nil)) (me_lstN ma_nil)) (ms_cons (ms_for [2] hp rfl (mi_rng1 rfl T.b_range (ma_cons (me_callB (cm_len rfl) bb_len T.b_len (ma_cons (me_var 3) ma_nil)) ma_nil)) (mg_name 2 sc__law_shuffled.nd) (ms_one (ms_expr (me_bm rfl (mm_append) F.plainAttrs_list F.slot_list_append F.type_list_append (me_var 4) (ma_cons (me_bm rfl (mm_popAt) F.plainAttrs_list F.slot_list_pop F.type_list_pop (me_var 3) (ma_cons (me_call rfl (r__law_grind T) (hr.mono (by decide)) tk (ma_cons (me_var 0) (ma_cons (me_callB (cm_len rfl) bb_len T.b_len (ma_cons (me_var 3) ma_nil)) ma_nil))) ma_nil)) ma_nil))))) (ms_one (ms_ret (me_frz (me_var 4))))))).trim
theorem sc__law_is_that : FnScope ["told", "due", "kinds", "one", "other"] ["told", "due"] (defScope s__law_is_that) := ⟨rfl, rfl, rfl, by decide +kernel, rfl, by decide +kernel, by decide +kernel⟩
abbrev f__law_is_that : Nat → List D → MH → Res D := C.f__law_is_that
theorem r__law_is_that (T : Top mg base g) : ∀ n, FnM P w mg base g (n + 1) "_law_is_that" "_law_is_that" s__law_is_that ["told", "due"] 2 (f__law_is_that n)
  | 0 => FnM.none T.at__law_is_that rfl
  | n + 1 => by
    have ih := r__law_is_that T n
    exact (FnM.mk' T.at__law_is_that sc__law_is_that rfl fun f cdv A outer s H E hm hcv hr tk hp =>
      (ms_cons (ms_if (PW.pt (mw_or (mt_tr rfl (me_callB (cm_isi rfl) bb_isinstance T.b_isinstance (ma_cons (me_var 1) (ma_cons (me_bltn rfl T.b_tuple bt_tuple rfl) ma_nil)))) (mw_or1 (mt_tr rfl (me_callB (cm_isi rfl) bb_isinstance T.b_isinstance (ma_cons (me_var 1) (ma_cons (me_bltn rfl T.b_list bt_list rfl) ma_nil))))))) (ms_cons (ms_set 2 sc__law_is_that.nd (me_and rfl (me_cmp (om_eqX rfl (hu64 hr)) (me_callB (cm_isi rfl) bb_isinstance T.b_isinstance (ma_cons (me_var 0) (ma_cons (me_bltn rfl T.b_tuple bt_tuple rfl) ma_nil))) (me_callB (cm_isi rfl) bb_isinstance T.b_isinstance (ma_cons (me_var 1) (ma_cons (me_bltn rfl T.b_tuple bt_tuple rfl) ma_nil)))) (me_one (me_cmp (om_eqX rfl (hu64 hr)) (me_callB (cm_isi rfl) bb_isinstance T.b_isinstance (ma_cons (me_var 0) (ma_cons (me_bltn rfl T.b_list bt_list rfl) ma_nil))) (me_callB (cm_isi rfl) bb_isinstance T.b_isinstance (ma_cons (me_var 1) (ma_cons (me_bltn rfl T.b_list bt_list rfl) ma_nil))))))) (ms_one (ms_ret (me_and rfl (me_var 2) (me_and rfl (me_cmp (om_eqX rfl (hu64 hr)) (me_callB (cm_len rfl) bb_len T.b_len (ma_cons (me_var 0) ma_nil)) (me_callB (cm_len rfl) bb_len T.b_len (ma_cons (me_var 1) ma_nil))) (me_one (me_callB (cm_all rfl) bb_all T.b_all (ma_cons (me_lc [("one", 3), ("other", 4)] rfl sc__law_is_that.nd (mi_zip rfl rfl T.b_zip (ma_cons (me_var 0) (ma_cons (me_var 1) ma_nil))) (blkOk_by (by rfl)) (fun _ _ _ _ _ => (mgP_tup 2 rfl rfl (mgs_cons (mg_name 3 sc__law_is_that.nd) (mgs_cons (mg_name 4 sc__law_is_that.nd) mgs_nil)))) (fun _ _ _ _ _ => mts_nil) (fun _ _ _ _ _ => (me_call rfl ih (hr.mono (by omega)) ML.takes0 (ma_cons (me_var 3) (ma_cons (me_var 4) ma_nil))))) ma_nil)))))))) ms_nil) (ms_cons (ms_if (mt_cmp (om_is) (me_var 1) me_non) (ms_one (ms_ret (me_cmp (om_is) (me_var 0) me_non))) ms_nil) (ms_cons (ms_if (mt_tr rfl (me_callB (cm_isi rfl) bb_isinstance T.b_isinstance (ma_cons (me_var 1) (ma_cons (me_bltn rfl T.b_bool bt_bool rfl) ma_nil)))) (ms_one (ms_ret (me_and rfl (me_callB (cm_isi rfl) bb_isinstance T.b_isinstance (ma_cons (me_var 0) (ma_cons (me_bltn rfl T.b_bool bt_bool rfl) ma_nil))) (me_one (me_cmp (om_eqX rfl (hu64 hr)) (me_var 0) (me_var 1)))))) ms_nil) (ms_cons (ms_if (mt_tr rfl (me_callB (cm_isi rfl) bb_isinstance T.b_isinstance (ma_cons (me_var 1) (ma_cons (me_bltn rfl T.b_int bt_int rfl) ma_nil)))) (ms_one (ms_ret (me_and rfl (me_callB (cm_isi rfl) bb_isinstance T.b_isinstance (ma_cons (me_var 0) (ma_cons (me_bltn rfl T.b_int bt_int rfl) ma_nil))) (me_and rfl (me_not rfl (me_callB (cm_isi rfl) bb_isinstance T.b_isinstance (ma_cons (me_var 0) (ma_cons (me_bltn rfl T.b_bool bt_bool rfl) ma_nil)))) (me_one (me_cmp (om_eqX rfl (hu64 hr)) (me_var 0) (me_var 1))))))) ms_nil) (ms_one (ms_ret (me_and rfl (me_callB (cm_isi rfl) bb_isinstance T.b_isinstance (ma_cons (me_var 0) (ma_cons (me_bltn rfl T.b_str bt_str rfl) ma_nil))) (me_one (me_cmp (om_eqX rfl (hu64 hr)) (me_var 0) (me_var 1)))))))))))
abbrev n_f__law_is_that : List D → MH → Res D := C.n_f__law_is_that
theorem n__law_is_that (T : Top mg base g) : FnMN P w mg base g 1 "_law_is_that" "_law_is_that" s__law_is_that ["told", "due"] 2 n_f__law_is_that :=
  FnMN.mk' T.at__law_is_that sc__law_is_that rfl fun f cdv A outer s H E hr tk =>
    (ms_cons (ms_if (PW.pt (mw_or (mt_tr rfl (me_callB (cm_isi rfl) bb_isinstance T.b_isinstance (ma_cons (me_var 1) (ma_cons (me_bltn rfl T.b_tuple bt_tuple rfl) ma_nil)))) (mw_or1 (mt_tr rfl (me_callB (cm_isi rfl) bb_isinstance T.b_isinstance (ma_cons (me_var 1) (ma_cons (me_bltn rfl T.b_list bt_list rfl) ma_nil))))))) mss_stuck ms_nil) (ms_cons (ms_if (mt_cmp (om_is) (me_var 1) me_non) (ms_one (ms_ret (me_cmp (om_is) (me_var 0) me_non))) ms_nil) (ms_cons (ms_if (mt_tr rfl (me_callB (cm_isi rfl) bb_isinstance T.b_isinstance (ma_cons (me_var 1) (ma_cons (me_bltn rfl T.b_bool bt_bool rfl) ma_nil)))) (ms_one (ms_ret (me_and rfl (me_callB (cm_isi rfl) bb_isinstance T.b_isinstance (ma_cons (me_var 0) (ma_cons (me_bltn rfl T.b_bool bt_bool rfl) ma_nil))) (me_one (me_cmp (om_eqX rfl (hh64 hr)) (me_var 0) (me_var 1)))))) ms_nil) (ms_cons (ms_if (mt_tr rfl (me_callB (cm_isi rfl) bb_isinstance T.b_isinstance (ma_cons (me_var 1) (ma_cons (me_bltn rfl T.b_int bt_int rfl) ma_nil)))) (ms_one (ms_ret (me_and rfl (me_callB (cm_isi rfl) bb_isinstance T.b_isinstance (ma_cons (me_var 0) (ma_cons (me_bltn rfl T.b_int bt_int rfl) ma_nil))) (me_and rfl (me_not rfl (me_callB (cm_isi rfl) bb_isinstance T.b_isinstance (ma_cons (me_var 0) (ma_cons (me_bltn rfl T.b_bool bt_bool rfl) ma_nil)))) (me_one (me_cmp (om_eqX rfl (hh64 hr)) (me_var 0) (me_var 1))))))) ms_nil) (ms_one (ms_ret (me_and rfl (me_callB (cm_isi rfl) bb_isinstance T.b_isinstance (ma_cons (me_var 0) (ma_cons (me_bltn rfl T.b_str bt_str rfl) ma_nil))) (me_one (me_cmp (om_eqX rfl (hh64 hr)) (me_var 0) (me_var 1))))))))))
theorem sc__law_players : FnScope [] [] (defScope s__law_players) := ⟨rfl, rfl, rfl, by decide +kernel, rfl, by decide +kernel, by decide +kernel⟩
abbrev f__law_players : List D → MH → Res D := C.f__law_players
theorem r__law_players (T : Top mg base g) : FnM P w mg base g 1 "_law_players" "_law_players" s__law_players [] 0 f__law_players :=
  (FnM.mk' T.at__law_players sc__law_players rfl fun f cdv A outer s H E hm hcv hr tk hp =>
    (ms_one (ms_ret (me_lst (ma_cons me_str (ma_cons me_str (ma_cons me_str (ma_cons me_str (ma_cons me_str (ma_cons me_str (ma_cons me_str ma_nil)))))))))))
theorem sc__law_game : FnScope ["mill", "names", "high", "name"] ["mill"] (defScope s__law_game) := ⟨rfl, rfl, rfl, by decide +kernel, rfl, by decide +kernel, by decide +kernel⟩
def f__law_game : List D → MH → Res D := mFn 1 4 (mSeq (mSet 1 (mSl (mCall 2 C.f__law_shuffled (mCons (mVar 0) (mCons (mCall 0 C.f__law_players mNil) mNil))) mNoPart (mPart (mBin gAdd (mC (.int 1)) (mCall 2 C.f__law_grind (mCons (mVar 0) (mCons (mC (.int 5)) mNil))))))) (mSeq (mSet 2 (mCall 2 C.f__law_among (mCons (mVar 0) (mCons (mLst (mCons (mC (.int 2)) (mCons (mC (.int 4)) (mCons (mC (.int 100)) mNil)))) mNil)))) (mRet (mCB cTuple (mCons (mLc [3] (mItm itsA (mVar 1)) (tgName 3) mYes (mTup (mCons (mVar 3) (mCons (mBin gMul (mCall 2 C.f__law_grind (mCons (mVar 0) (mCons (mVar 2) mNil))) (mCall 2 C.f__law_among (mCons (mVar 0) (mCons (mLst (mCons (mC (.int 1)) (mCons (mC (.int 1)) (mCons (mNeg (mC (.int 1))) mNil)))) mNil)))) mNil)))) mNil)))))
theorem r__law_game (T : Top mg base g) : FnM P w mg base g 3 "_law_game" "_law_game" s__law_game ["mill"] 1 f__law_game :=
  (FnM.mk' T.at__law_game sc__law_game rfl fun f cdv A outer s H E hm hcv hr tk hp =>
    (ms_cons (ms_set 1 sc__law_game.nd (me_slice rfl (me_call rfl (r__law_shuffled T) (hr.mono (by decide)) tk (ma_cons (me_var 0) (ma_cons (me_call0 rfl (r__law_players T) (hr.mono (by decide)) tk) ma_nil))) mo_none (mo_some (me_bin (om_add rfl) me_int (me_call rfl (r__law_grind T) (hr.mono (by decide)) tk (ma_cons (me_var 0) (ma_cons me_int ma_nil))))))) (ms_cons (ms_set 2 sc__law_game.nd (me_call rfl (r__law_among T) (hr.mono (by decide)) tk (ma_cons (me_var 0) (ma_cons (me_lst (ma_cons me_int (ma_cons me_int (ma_cons me_int ma_nil)))) ma_nil)))) (ms_one (ms_ret (me_callTy (cm_tuple rfl) bt_tuple T.b_tuple (ma_cons (me_lc [("name", 3)] rfl sc__law_game.nd (mi_any rfl (me_var 1)) (blkOk_by (by rfl)) (fun _ _ _ _ _ => (mg_name 3 sc__law_game.nd)) (fun _ _ _ _ _ => mts_nil) (fun _ _ _ _ _ => (me_tup (ma_cons (me_var 3) (ma_cons (me_bin (om_mul) (me_call rfl (r__law_grind T) (hr.mono (by decide)) ML.takes0 (ma_cons (me_var 0) (ma_cons (me_var 2) ma_nil))) (me_call rfl (r__law_among T) (hr.mono (by decide)) ML.takes0 (ma_cons (me_var 0) (ma_cons (me_lst (ma_cons me_int (ma_cons me_int (ma_cons (me_neg me_int) ma_nil)))) ma_nil)))) ma_nil))))) ma_nil)))))))
theorem sc__law_counted : FnScope ["games", "name", "own", "wins", "game", "one", "points"] ["games", "name"] (defScope s__law_counted) := ⟨rfl, rfl, rfl, by decide +kernel, rfl, by decide +kernel, by decide +kernel⟩
def f__law_counted : List D → MH → Res D := mFn 2 7 (mSeq (mSet 2 (mLc [4] (mItm itsA (mVar 0)) (tgName 4) (mTb (mBin gIn (mVar 1) (mLc [5, 6] (mItm itsA (mVar 4)) (tgTup 2 (tgCons (tgName 5) (tgCons (tgName 6) tgNil))) mYes (mVar 5)))) (mCB cDict (mCons (mVar 4) mNil)))) (mSeq (mSet 3 (mLc [4] (mItm itsA (mVar 2)) (tgName 4) (mTb (mBin gEqX (mCB cMax (mCons (mLc [5] (mItm itsA (mCB cList (mCons (mVar 4) mNil))) (tgName 5) mYes (mBin gIx (mVar 4) (mVar 5))) mNil)) (mBin gIx (mVar 4) (mVar 1)))) (mVar 4))) (mRet (mTup (mCons (mCB cSumX (mCons (mLc [4] (mItm itsA (mVar 2)) (tgName 4) mYes (mBin gIx (mVar 4) (mVar 1))) mNil)) (mCons (mCB cLen (mCons (mVar 3) mNil)) (mCons (mCB cLen (mCons (mVar 2) mNil)) mNil)))))))
theorem r__law_counted (T : Top mg base g) : FnM P w mg base g 1 "_law_counted" "_law_counted" s__law_counted ["games", "name"] 2 f__law_counted :=
  (FnM.mk' T.at__law_counted sc__law_counted rfl fun f cdv A outer s H E hm hcv hr tk hp =>
    (ms_cons (ms_setLc 2 [("game", 4)] rfl sc__law_counted.nd (mi_any rfl (me_var 0)) (blkOk_by (by rfl)) (fun _ _ _ _ _ => (mg_name 4 sc__law_counted.nd)) (fun _ _ _ _ _ => (mts_one (mt_cmp (om_in rfl (hu65 hr)) (me_var 1) (me_lc [("one", 5), ("points", 6)] rfl sc__law_counted.nd (mi_any rfl (me_var 4)) (blkOk_by (by rfl)) (fun _ _ _ _ _ => (mg_tup 2 rfl rfl (mgs_cons (mg_name 5 sc__law_counted.nd) (mgs_cons (mg_name 6 sc__law_counted.nd) mgs_nil)))) (fun _ _ _ _ _ => mts_nil) (fun _ _ _ _ _ => (me_var 5)))))) (fun _ _ _ _ _ => (me_callTy (cm_dict rfl rfl) bt_dict T.b_dict (ma_cons (me_var 4) ma_nil)))) (ms_cons (ms_setLc 3 [("game", 4)] rfl sc__law_counted.nd (mi_any rfl (me_var 2)) (blkOk_by (by rfl)) (fun _ _ _ _ _ => (mg_name 4 sc__law_counted.nd)) (fun _ _ _ _ _ => (mts_one (mt_cmp (om_eqX rfl (hu64 hr)) (me_callB (cm_max rfl) bb_max T.b_max (ma_cons (me_lc [("one", 5)] rfl sc__law_counted.nd (mi_any rfl (me_callTy (cm_list rfl rfl) bt_list T.b_list (ma_cons (me_var 4) ma_nil))) (blkOk_by (by rfl)) (fun _ _ _ _ _ => (mg_name 5 sc__law_counted.nd)) (fun _ _ _ _ _ => mts_nil) (fun _ _ _ _ _ => (me_ix rfl (hu1 hr) (me_var 4) (me_var 5)))) ma_nil)) (me_ix rfl (hu1 hr) (me_var 4) (me_var 1))))) (fun _ _ _ _ _ => (me_var 4))) (ms_one (ms_ret (me_tup (ma_cons (me_callB (cm_sumX rfl) bb_sum T.b_sum (ma_cons (me_lc [("game", 4)] rfl sc__law_counted.nd (mi_any rfl (me_var 2)) (blkOk_by (by rfl)) (fun _ _ _ _ _ => (mg_name 4 sc__law_counted.nd)) (fun _ _ _ _ _ => mts_nil) (fun _ _ _ _ _ => (me_ix rfl (hu1 hr) (me_var 4) (me_var 1)))) ma_nil)) (ma_cons (me_callB (cm_len rfl) bb_len T.b_len (ma_cons (me_var 3) ma_nil)) (ma_cons (me_callB (cm_len rfl) bb_len T.b_len (ma_cons (me_var 2) ma_nil)) ma_nil)))))))))
theorem sc__law_beaten : FnScope ["games", "name", "found", "other", "both", "game"] ["games", "name"] (defScope s__law_beaten) := ⟨rfl, rfl, rfl, by decide +kernel, rfl, by decide +kernel, by decide +kernel⟩
def f__law_beaten : List D → MH → Res D := mFnT 2 6 (mSeq (mSet 2 (mLstN mNil)) (mSeq (mFor (mItm itsA (mCB cSortedX (mCons (mCall 0 C.f__law_players mNil) mNil))) (tgName 3) (mSeq (mSet 4 (mLc [5] (mItm itsA (mVar 0)) (tgName 5) (mAndT (mTb (mBin gIn (mVar 1) (mCB cDict (mCons (mVar 5) mNil)))) (mTb (mBin gIn (mVar 3) (mCB cDict (mCons (mVar 5) mNil))))) (mCB cDict (mCons (mVar 5) mNil)))) (mIfS (mAndT (mTb (mBin gNeX (mVar 3) (mVar 1))) (mAndT (mTb (mBin gNeX (mVar 4) (mLst mNil))) (mTr (mCB cAll (mCons (mLc [5] (mItm itsA (mVar 4)) (tgName 5) mYes (mBin gGt (mBin gIx (mVar 5) (mVar 1)) (mBin gIx (mVar 5) (mVar 3)))) mNil))))) (mExpr (mBM "list" fAppend (mVar 2) (mCons (mVar 3) mNil))) mNext))) (mRet (mCB cTuple (mCons (mVar 2) mNil)))))
theorem r__law_beaten (T : Top mg base g) : FnM P w mg base g 2 "_law_beaten" "_law_beaten" s__law_beaten ["games", "name"] 2 f__law_beaten :=
  (FnM.mk' T.at__law_beaten sc__law_beaten rfl fun f cdv A outer s H E hm hcv hr tk hp =>
    (ms_cons (ms_set 2 sc__law_beaten.nd (me_lstN ma_nil)) (ms_cons (ms_for [3] hp rfl (mi_any rfl (me_callB (cm_sortedX rfl rfl (hu64 hr)) bb_sorted T.b_sorted (ma_cons (me_call0 rfl (r__law_players T) (hr.mono (by decide)) tk) ma_nil))) (mg_name 3 sc__law_beaten.nd) (ms_cons (ms_setLc 4 [("game", 5)] rfl sc__law_beaten.nd (mi_any rfl (me_var 0)) (blkOk_by (by rfl)) (fun _ _ _ _ _ => (mg_name 5 sc__law_beaten.nd)) (fun _ _ _ _ _ => (mts_one (PW.pt (mw_and (mt_cmp (om_in rfl (hu65 hr)) (me_var 1) (me_callTy (cm_dict rfl rfl) bt_dict T.b_dict (ma_cons (me_var 5) ma_nil))) (mw_and1 (mt_cmp (om_in rfl (hu65 hr)) (me_var 3) (me_callTy (cm_dict rfl rfl) bt_dict T.b_dict (ma_cons (me_var 5) ma_nil)))))))) (fun _ _ _ _ _ => (me_callTy (cm_dict rfl rfl) bt_dict T.b_dict (ma_cons (me_var 5) ma_nil)))) (ms_one (ms_if (PW.pt (mw_and (mt_cmp (om_neX rfl (hu64 hr)) (me_var 3) (me_var 1)) (mw_and (mt_cmp (om_neX rfl (hu64 hr)) (me_var 4) (me_lst ma_nil)) (mw_and1 (mt_tr rfl (me_callB (cm_all rfl) bb_all T.b_all (ma_cons (me_lc [("game", 5)] rfl sc__law_beaten.nd (mi_any rfl (me_var 4)) (blkOk_by (by rfl)) (fun _ _ _ _ _ => (mg_name 5 sc__law_beaten.nd)) (fun _ _ _ _ _ => mts_nil) (fun _ _ _ _ _ => (me_cmp (om_gt) (me_ix rfl (hu1 hr) (me_var 5) (me_var 1)) (me_ix rfl (hu1 hr) (me_var 5) (me_var 3))))) ma_nil))))))) (ms_one (ms_expr (me_bm rfl (mm_append) F.plainAttrs_list F.slot_list_append F.type_list_append (me_var 2) (ma_cons (me_var 3) ma_nil)))) ms_nil)))) (ms_one (ms_ret (me_callTy (cm_tuple rfl) bt_tuple T.b_tuple (ma_cons (me_var 2) ma_nil))))))).trim
theorem sc__law_standing : FnScope ["games", "names", "rows", "name", "total", "game", "points"] ["games"] (defScope s__law_standing) := ⟨rfl, rfl, rfl, by decide +kernel, rfl, by decide +kernel, by decide +kernel⟩
def f__law_standing : List D → MH → Res D := mFn 1 7 (mSeq (mSet 1 (mCB cSortedU (mCons (mCB cSumX (mCons (mLc [5] (mItm itsA (mVar 0)) (tgName 5) mYes (mLc [3, 6] (mItm itsA (mVar 5)) (tgTup 2 (tgCons (tgName 3) (tgCons (tgName 6) tgNil))) mYes (mVar 3))) (mCons (mLst mNil) mNil))) mNil))) (mSeq (mSet 2 (mCB cSortedX (mCons (mLc [3] (mItm itsA (mVar 1)) (tgName 3) mYes (mTup (mCons (mBin gSub (mC (.int 0)) (mBin gIx (mCall 2 f__law_counted (mCons (mVar 0) (mCons (mVar 3) mNil))) (mC (.int 0)))) (mCons (mVar 3) mNil)))) mNil))) (mRet (mCB cTuple (mCons (mLc [4, 3] (mItm itsA (mVar 2)) (tgTup 2 (tgCons (tgName 4) (tgCons (tgName 3) tgNil))) mYes (mBin gAdd (mTup (mCons (mVar 3) mNil)) (mSl (mCall 2 f__law_counted (mCons (mVar 0) (mCons (mVar 3) mNil))) mNoPart (mPart (mC (.int 2)))))) mNil)))))
theorem r__law_standing (T : Top mg base g) : FnM P w mg base g 2 "_law_standing" "_law_standing" s__law_standing ["games"] 1 f__law_standing :=
  (FnM.mk' T.at__law_standing sc__law_standing rfl fun f cdv A outer s H E hm hcv hr tk hp =>
    (ms_cons (ms_set 1 sc__law_standing.nd (me_sortedSet rfl rfl (hu64 hr) T.b_sorted T.b_set (ma_cons (me_callB (cm_sumX rfl) bb_sum T.b_sum (ma_cons (me_lc [("game", 5)] rfl sc__law_standing.nd (mi_any rfl (me_var 0)) (blkOk_by (by rfl)) (fun _ _ _ _ _ => (mg_name 5 sc__law_standing.nd)) (fun _ _ _ _ _ => mts_nil) (fun _ _ _ _ _ => (me_lc [("name", 3), ("points", 6)] rfl sc__law_standing.nd (mi_any rfl (me_var 5)) (blkOk_by (by rfl)) (fun _ _ _ _ _ => (mg_tup 2 rfl rfl (mgs_cons (mg_name 3 sc__law_standing.nd) (mgs_cons (mg_name 6 sc__law_standing.nd) mgs_nil)))) (fun _ _ _ _ _ => mts_nil) (fun _ _ _ _ _ => (me_var 3))))) (ma_cons (me_lst ma_nil) ma_nil))) ma_nil))) (ms_cons (ms_set 2 sc__law_standing.nd (me_callB (cm_sortedX rfl rfl (hu64 hr)) bb_sorted T.b_sorted (ma_cons (me_lc [("name", 3)] rfl sc__law_standing.nd (mi_any rfl (me_var 1)) (blkOk_by (by rfl)) (fun _ _ _ _ _ => (mg_name 3 sc__law_standing.nd)) (fun _ _ _ _ _ => mts_nil) (fun _ _ _ _ _ => (me_tup (ma_cons (me_bin (om_sub) me_int (me_ix rfl (hu1 hr) (me_call rfl (r__law_counted T) (hr.mono (by decide)) ML.takes0 (ma_cons (me_var 0) (ma_cons (me_var 3) ma_nil))) me_int)) (ma_cons (me_var 3) ma_nil))))) ma_nil))) (ms_one (ms_ret (me_callTy (cm_tuple rfl) bt_tuple T.b_tuple (ma_cons (me_lc [("total", 4), ("name", 3)] rfl sc__law_standing.nd (mi_any rfl (me_var 2)) (blkOk_by (by rfl)) (fun _ _ _ _ _ => (mg_tup 2 rfl rfl (mgs_cons (mg_name 4 sc__law_standing.nd) (mgs_cons (mg_name 3 sc__law_standing.nd) mgs_nil)))) (fun _ _ _ _ _ => mts_nil) (fun _ _ _ _ _ => (me_bin (om_add rfl) (me_tup (ma_cons (me_var 3) ma_nil)) (me_slice rfl (me_call rfl (r__law_counted T) (hr.mono (by decide)) ML.takes0 (ma_cons (me_var 0) (ma_cons (me_var 3) ma_nil))) mo_none (mo_some me_int))))) ma_nil)))))))
theorem sc__law_text_of : FnScope ["games", "lines", "game", "name", "points"] ["games"] (defScope s__law_text_of) := ⟨rfl, rfl, rfl, by decide +kernel, rfl, by decide +kernel, by decide +kernel⟩
def f__law_text_of : List D → MH → Res D := mFn 1 5 (mSeq (mSet 1 (mLc [2] (mItm itsA (mVar 0)) (tgName 2) mYes (mBM "str" fJoin (mC (.str " ")) (mCons (mLc [3, 4] (mItm itsA (mVar 2)) (tgTup 2 (tgCons (tgName 3) (tgCons (tgName 4) tgNil))) mYes (mBin gAdd (mBin gAdd (mVar 3) (mC (.str ":"))) (mCB cStr (mCons (mVar 4) mNil)))) mNil)))) (mRet (mIf (mTb (mBin gNeX (mVar 1) (mLst mNil))) (mBM "str" fJoin (mC (.str "\n")) (mCons (mVar 1) mNil)) (mC (.str "-")))))
theorem r__law_text_of (T : Top mg base g) : FnM P w mg base g 1 "_law_text_of" "_law_text_of" s__law_text_of ["games"] 1 f__law_text_of :=
  (FnM.mk' T.at__law_text_of sc__law_text_of rfl fun f cdv A outer s H E hm hcv hr tk hp =>
    (ms_cons (ms_setLc 1 [("game", 2)] rfl sc__law_text_of.nd (mi_any rfl (me_var 0)) (blkOk_by (by rfl)) (fun _ _ _ _ _ => (mg_name 2 sc__law_text_of.nd)) (fun _ _ _ _ _ => mts_nil) (fun _ _ _ _ _ => (me_bm rfl (mm_join rfl) F.plainAttrs_str F.slot_str_join F.type_str_join me_str (ma_cons (me_lc [("name", 3), ("points", 4)] rfl sc__law_text_of.nd (mi_any rfl (me_var 2)) (blkOk_by (by rfl)) (fun _ _ _ _ _ => (mg_tup 2 rfl rfl (mgs_cons (mg_name 3 sc__law_text_of.nd) (mgs_cons (mg_name 4 sc__law_text_of.nd) mgs_nil)))) (fun _ _ _ _ _ => mts_nil) (fun _ _ _ _ _ => (me_bin (om_add rfl) (me_bin (om_add rfl) (me_var 3) me_str) (me_callTy (cm_str) bt_str T.b_str (ma_cons (me_var 4) ma_nil))))) ma_nil)))) (ms_one (ms_ret (me_if (mt_cmp (om_neX rfl (hu64 hr)) (me_var 1) (me_lst ma_nil)) (me_bm rfl (mm_join rfl) F.plainAttrs_str F.slot_str_join F.type_str_join me_str (ma_cons (me_var 1) ma_nil)) me_str)))))
theorem sc__law_is_unknown : FnScope ["act", "name", "e"] ["act", "name"] (defScope s__law_is_unknown) := ⟨rfl, rfl, rfl, by decide +kernel, rfl, by decide +kernel, by decide +kernel⟩
def b__law_is_unknown (act : MH → Res D) : MS := (mSeq (mTry 2 tc_UnknownName (mExpr (mAct act)) (fun ex => (mRet (mBin gEqX (mXF "given" ex.fs) (mVar 1))))) (mRet (mC (.bl false))))
theorem r__law_is_unknown (T : Top mg base g) (k : Nat) : FnA P w mg base g k "_law_is_unknown" "_law_is_unknown" s__law_is_unknown ["act", "name", "e"] ["act", "name"] "act" 1 b__law_is_unknown := ⟨T.at__law_is_unknown, sc__law_is_unknown, rfl, rfl, .inl rfl, fun f cdv A outer s H E fl w0 act hr hact tk hp => (ms_cons (ms_try_as (tc := tc_UnknownName) rfl T.t_UnknownName rfl rfl sc__law_is_unknown.nd tk (fun W0 pn0 xe0 tk0 hp0 => (ms_one (ms_expr (hact _ _ _ tk0 _ _)))) (fun a oe pn ex C dd hc0 hC hz hf => (ms_one (ms_ret (me_cmp (om_eqX rfl (hh64 (roomSuite hr _))) (me_xfld rfl 2 (T.xf_UnknownName_given _ hc0) hC hz hf) (me_var 1)))))) (ms_one (ms_ret me_bl)))⟩
theorem sc__law_season_right : FnScope ["season", "games", "names", "name", "told", "total", "wins"] ["season", "games"] (defScope s__law_season_right) := ⟨rfl, rfl, rfl, by decide +kernel, rfl, by decide +kernel, by decide +kernel⟩
def f__law_season_right : List D → MH → Res D := mFnT 2 7 (mSeq (mSet 2 (mLc [3, 5, 6] (mItm itsA (mCall 1 f__law_standing (mCons (mVar 1) mNil))) (tgTup 3 (tgCons (tgName 3) (tgCons (tgName 5) (tgCons (tgName 6) tgNil)))) mYes (mVar 3))) (mSeq (mFor (mItm itsA (mCall 0 C.f__law_players mNil)) (tgName 3) (mSeq (mIfS (mTb (mBin gNotIn (mVar 3) (mVar 2))) (mSeq (mSet 4 (mLstN (mCons (mCallA (fun act => mFnA 1 3 (b__law_is_unknown act)) (mMethK 45 1 2 [0] "total" C.f_Season_total (mVar 0) (mCons (mVar 3) mNil)) (mCons (mVar 3) mNil)) mNil))) (mSeq (mExpr (mBM "list" fAppend (mVar 4) (mCons (mCallA (fun act => mFnA 1 3 (b__law_is_unknown act)) (mMeth 45 2 "wins" C.f_Season_wins (mVar 0) (mCons (mVar 3) mNil)) (mCons (mVar 3) mNil)) mNil))) (mSeq (mExpr (mBM "list" fAppend (mVar 4) (mCons (mCallA (fun act => mFnA 1 3 (b__law_is_unknown act)) (mMethK 45 1 2 [0] "games" C.f_Season_games (mVar 0) (mCons (mVar 3) mNil)) (mCons (mVar 3) mNil)) mNil))) (mSeq (mExpr (mBM "list" fAppend (mVar 4) (mCons (mCallA (fun act => mFnA 1 3 (b__law_is_unknown act)) (mMethK 45 1 2 [0] "beaten" C.f_Season_beaten (mVar 0) (mCons (mVar 3) mNil)) (mCons (mVar 3) mNil)) mNil))) (mSeq (mIfS (mTb (mBin gNeX (mVar 4) (mBin gMul (mLst (mCons (mC (.bl true)) mNil)) (mC (.int 4))))) (mRet (mC (.bl false))) mNext) mCont))))) mNext) (mSeq (mSet 4 (mLst (mCons (mMeth 45 2 "total" C.f_Season_total (mVar 0) (mCons (mVar 3) mNil)) (mCons (mMethK 45 1 2 [0] "wins" C.f_Season_wins (mVar 0) (mCons (mVar 3) mNil)) (mCons (mMeth 45 2 "games" C.f_Season_games (mVar 0) (mCons (mVar 3) mNil)) (mCons (mMeth 45 2 "beaten" C.f_Season_beaten (mVar 0) (mCons (mVar 3) mNil)) mNil)))))) (mIfS (mNotT (mTr (mCall 2 (C.f__law_is_that 6) (mCons (mVar 4) (mCons (mBin gAdd (mCB cList (mCons (mCall 2 f__law_counted (mCons (mVar 1) (mCons (mVar 3) mNil))) mNil)) (mLst (mCons (mCall 2 f__law_beaten (mCons (mVar 1) (mCons (mVar 3) mNil))) mNil))) mNil))))) (mRet (mC (.bl false))) mNext)))) (mSeq (mSet 4 (mLst (mCons (mMeth 45 1 "standing" C.f_Season_standing (mVar 0) mNil) (mCons (mCallK 0 1 1 [0] C.f_season_text mNil (mCons (mVar 0) mNil)) (mCons (mCallK 0 1 1 [0] C.f_read_season mNil (mCons (mCall 1 C.f_season_text (mCons (mVar 0) mNil)) mNil)) mNil))))) (mRet (mCall 2 (C.f__law_is_that 6) (mCons (mVar 4) (mCons (mLst (mCons (mCall 1 f__law_standing (mCons (mVar 1) mNil)) (mCons (mCall 1 f__law_text_of (mCons (mVar 1) mNil)) (mCons (mCB cTuple (mCons (mVar 1) mNil)) mNil)))) mNil)))))))
theorem r__law_season_right (T : Top mg base g) : FnM P w mg base g 8 "_law_season_right" "_law_season_right" s__law_season_right ["season", "games"] 2 f__law_season_right :=
  (FnM.mk' T.at__law_season_right sc__law_season_right rfl fun f cdv A outer s H E hm hcv hr tk hp =>
    (ms_cons (ms_setLc 2 [("name", 3), ("total", 5), ("wins", 6)] rfl sc__law_season_right.nd (mi_any rfl (me_call rfl (r__law_standing T) (hr.mono (by decide)) tk (ma_cons (me_var 1) ma_nil))) (blkOk_by (by rfl)) (fun _ _ _ _ _ => (mg_tup 3 rfl rfl (mgs_cons (mg_name 3 sc__law_season_right.nd) (mgs_cons (mg_name 5 sc__law_season_right.nd) (mgs_cons (mg_name 6 sc__law_season_right.nd) mgs_nil))))) (fun _ _ _ _ _ => mts_nil) (fun _ _ _ _ _ => (me_var 3))) (ms_cons (ms_for [3] hp rfl (mi_any rfl (me_call0 rfl (r__law_players T) (hr.mono (by decide)) tk)) (mg_name 3 sc__law_season_right.nd) (ms_cons (ms_if (mt_cmp (om_notIn rfl (hu65 hr)) (me_var 3) (me_var 2)) (ms_cons (ms_set 4 sc__law_season_right.nd (me_lstN (ma_cons (me_callA (k := 5) "_law_season_right.<locals>.<lambda>" rfl (r__law_is_unknown T _) (hcv ▸ T.tab__law_season_right f hm) (hr.mono (by decide)) tk (lamS_by (by rfl)) (fun A outer s H E f c' hr2 tk2 => (me_methK0 rfl (r_Season_total T) (hr2.mono (by decide)) tk2 kb_Season_total_name (me_var 0) (mk_cons (me_var 3) mk_nil))) (ma_cons (me_var 3) ma_nil)) ma_nil))) (ms_cons (ms_expr (me_bm rfl (mm_append) F.plainAttrs_list F.slot_list_append F.type_list_append (me_var 4) (ma_cons (me_callA (k := 5) "_law_season_right.<locals>.<lambda>" rfl (r__law_is_unknown T _) (hcv ▸ T.tab__law_season_right f hm) (hr.mono (by decide)) tk (lamS_by (by rfl)) (fun A outer s H E f c' hr2 tk2 => (me_meth rfl (r_Season_wins T) (hr2.mono (by decide)) tk2 (me_var 0) (ma_cons (me_var 3) ma_nil))) (ma_cons (me_var 3) ma_nil)) ma_nil))) (ms_cons (ms_expr (me_bm rfl (mm_append) F.plainAttrs_list F.slot_list_append F.type_list_append (me_var 4) (ma_cons (me_callA (k := 5) "_law_season_right.<locals>.<lambda>" rfl (r__law_is_unknown T _) (hcv ▸ T.tab__law_season_right f hm) (hr.mono (by decide)) tk (lamS_by (by rfl)) (fun A outer s H E f c' hr2 tk2 => (me_methK0 rfl (r_Season_games T) (hr2.mono (by decide)) tk2 kb_Season_games_name (me_var 0) (mk_cons (me_var 3) mk_nil))) (ma_cons (me_var 3) ma_nil)) ma_nil))) (ms_cons (ms_expr (me_bm rfl (mm_append) F.plainAttrs_list F.slot_list_append F.type_list_append (me_var 4) (ma_cons (me_callA (k := 5) "_law_season_right.<locals>.<lambda>" rfl (r__law_is_unknown T _) (hcv ▸ T.tab__law_season_right f hm) (hr.mono (by decide)) tk (lamS_by (by rfl)) (fun A outer s H E f c' hr2 tk2 => (me_methK0 rfl (r_Season_beaten T) (hr2.mono (by decide)) tk2 kb_Season_beaten_name (me_var 0) (mk_cons (me_var 3) mk_nil))) (ma_cons (me_var 3) ma_nil)) ma_nil))) (ms_cons (ms_if (mt_cmp (om_neX rfl (hu64 hr)) (me_var 4) (me_bin (om_mul) (me_lst (ma_cons me_bl ma_nil)) me_int)) (ms_one (ms_ret me_bl)) ms_nil) (ms_one ms_continue)))))) ms_nil) (ms_cons (ms_set 4 sc__law_season_right.nd (me_lst (ma_cons (me_meth rfl (r_Season_total T) (hr.mono (by decide)) tk (me_var 0) (ma_cons (me_var 3) ma_nil)) (ma_cons (me_methK0 rfl (r_Season_wins T) (hr.mono (by decide)) tk kb_Season_wins_name (me_var 0) (mk_cons (me_var 3) mk_nil)) (ma_cons (me_meth rfl (r_Season_games T) (hr.mono (by decide)) tk (me_var 0) (ma_cons (me_var 3) ma_nil)) (ma_cons (me_meth rfl (r_Season_beaten T) (hr.mono (by decide)) tk (me_var 0) (ma_cons (me_var 3) ma_nil)) ma_nil)))))) (ms_one (ms_if (mt_not (mt_tr rfl (me_call rfl (r__law_is_that T 6) (hr.mono (by decide)) tk (ma_cons (me_var 4) (ma_cons (me_bin (om_add rfl) (me_callTy (cm_list rfl rfl) bt_list T.b_list (ma_cons (me_call rfl (r__law_counted T) (hr.mono (by decide)) tk (ma_cons (me_var 1) (ma_cons (me_var 3) ma_nil))) ma_nil)) (me_lst (ma_cons (me_call rfl (r__law_beaten T) (hr.mono (by decide)) tk (ma_cons (me_var 1) (ma_cons (me_var 3) ma_nil))) ma_nil))) ma_nil))))) (ms_one (ms_ret me_bl)) ms_nil))))) (ms_cons (ms_set 4 sc__law_season_right.nd (me_lst (ma_cons (me_meth0 rfl (r_Season_standing T) (hr.mono (by decide)) tk (me_var 0)) (ma_cons (me_callK0 rfl (r_season_text T) (hr.mono (by decide)) tk kb_season_text_season (mk_cons (me_var 0) mk_nil)) (ma_cons (me_callK0 rfl (r_read_season T) (hr.mono (by decide)) tk kb_read_season_text (mk_cons (me_call rfl (r_season_text T) (hr.mono (by decide)) tk (ma_cons (me_var 0) ma_nil)) mk_nil)) ma_nil))))) (ms_one (ms_ret (me_call rfl (r__law_is_that T 6) (hr.mono (by decide)) tk (ma_cons (me_var 4) (ma_cons (me_lst (ma_cons (me_call rfl (r__law_standing T) (hr.mono (by decide)) tk (ma_cons (me_var 1) ma_nil)) (ma_cons (me_call rfl (r__law_text_of T) (hr.mono (by decide)) tk (ma_cons (me_var 1) ma_nil)) (ma_cons (me_callTy (cm_tuple rfl) bt_tuple T.b_tuple (ma_cons (me_var 1) ma_nil)) ma_nil)))) ma_nil))))))))).trim
theorem sc__law_has_none : FnScope ["season", "e"] ["season"] (defScope s__law_has_none) := ⟨rfl, rfl, rfl, by decide +kernel, rfl, by decide +kernel, by decide +kernel⟩
def f__law_has_none : List D → MH → Res D := mFn 1 2 (mSeq (mTry 1 tc_NothingToUndo (mExpr (mMeth 45 1 "undo" C.f_Season_undo (mVar 0) mNil)) (fun ex => (mRet (mCall 2 C.n_f__law_is_that (mCons (mXF "given" ex.fs) (mCons (mC (.int 0)) mNil)))))) (mRet (mC (.bl false))))
theorem r__law_has_none (T : Top mg base g) : FnM P w mg base g 8 "_law_has_none" "_law_has_none" s__law_has_none ["season"] 1 f__law_has_none :=
  (FnM.mk' T.at__law_has_none sc__law_has_none rfl fun f cdv A outer s H E hm hcv hr tk hp =>
    (ms_cons (ms_try_as (tc := tc_NothingToUndo) rfl T.t_NothingToUndo rfl rfl sc__law_has_none.nd tk (fun W0 pn0 xe0 tk0 hp0 => (ms_one (ms_expr (me_meth0 rfl (r_Season_undo T) (hr.mono (by decide)) tk0 (me_var 0))))) (fun a oe pn ex C dd hc0 hC hz hf => (ms_one (ms_ret (me_callN rfl (n__law_is_that T) ((roomSuite hr _).mono (by decide)) ML.takes0 (ma_cons (me_xfld rfl 1 (T.xf_NothingToUndo_given _ hc0) hC hz hf) (ma_cons me_int ma_nil))))))) (ms_one (ms_ret me_bl))))
theorem sc__law_told : FnScope ["games", "season", "game"] ["games"] (defScope s__law_told) := ⟨rfl, rfl, rfl, by decide +kernel, rfl, by decide +kernel, by decide +kernel⟩
def f__law_told : List D → MH → Res D := mFn 1 3 (mSeq (mSet 1 (mMake 45 1 C.f_Season_init mNil)) (mSeq (mFor (mItm itsA (mVar 0)) (tgName 2) (mExpr (mMethK 45 1 2 [0] "add" C.f_Season_add (mVar 1) (mCons (mVar 2) mNil)))) (mRet (mVar 1))))
theorem r__law_told (T : Top mg base g) : FnM P w mg base g 6 "_law_told" "_law_told" s__law_told ["games"] 1 f__law_told :=
  (FnM.mk' T.at__law_told sc__law_told rfl fun f cdv A outer s H E hm hcv hr tk hp =>
    (ms_cons (ms_set 1 sc__law_told.nd (me_make0 rfl (r_Season_init T) (hr.mono (by decide)))) (ms_cons (ms_for [2] hp rfl (mi_any rfl (me_var 0)) (mg_name 2 sc__law_told.nd) (ms_one (ms_expr (me_methK0 rfl (r_Season_add T) (hr.mono (by decide)) tk kb_Season_add_game (me_var 1) (mk_cons (me_var 2) mk_nil))))) (ms_one (ms_ret (me_var 1))))))
theorem sc_law : FnScope ["script", "lap", "mill", "turn", "more", "both", "season", "games", "again", "other", "name", "total", "wins", "parts"] ["script"] (defScope s_law) := ⟨rfl, rfl, rfl, by decide +kernel, rfl, by decide +kernel, by decide +kernel⟩
def f_law : List D → MH → Res D := mFn 1 14 (mSeq (mFor (mItm itsA (mTup (mCons (mC (.int 0)) (mCons (mC (.int 1)) mNil)))) (tgName 1) (mSeq (mSet 2 (mCall 2 C.f__law_mill (mCons (mVar 0) (mCons (mVar 1) mNil)))) (mSeq (mPar 6 7 (mMake 45 1 C.f_Season_init mNil) (mLst mNil)) (mSeq (mIfS (mOrT (mNotT (mTr (mCall 1 f__law_has_none (mCons (mVar 6) mNil)))) (mNotT (mTr (mCall 2 f__law_season_right (mCons (mVar 6) (mCons (mVar 7) mNil)))))) (mRet (mC (.bl false))) mNext) (mSeq (mFor (mArgs rng1 (mCons (mC (.int 9)) mNil)) (tgName 3) (mSeq (mIfS (mAndT (mTb (mBin gNeX (mVar 7) (mLst mNil))) (mTb (mBin gEqX (mCall 2 C.f__law_grind (mCons (mVar 2) (mCons (mC (.int 5)) mNil))) (mC (.int 0))))) (mSeq (mIfS (mTb (mBin gIsNot (mMeth 45 1 "undo" C.f_Season_undo (mVar 6) mNil) (mC .non))) (mRet (mC (.bl false))) mNext) (mSet 7 (mSl (mVar 7) mNoPart (mPart (mNeg (mC (.int 1))))))) (mSeq (mSet 7 (mBin gAdd (mVar 7) (mLst (mCons (mCall 1 f__law_game (mCons (mVar 2) mNil)) mNil)))) (mIfS (mTb (mBin gIsNot (mMeth 45 2 "add" C.f_Season_add (mVar 6) (mCons (mBin gIx (mVar 7) (mNeg (mC (.int 1)))) mNil)) (mC .non))) (mRet (mC (.bl false))) mNext))) (mIfS (mNotT (mTr (mCall 2 f__law_season_right (mCons (mVar 6) (mCons (mVar 7) mNil))))) (mRet (mC (.bl false))) mNext))) (mSeq (mPar 8 9 (mCall 1 f__law_told (mCons (mCall 1 C.f_read_season (mCons (mCall 1 f__law_text_of (mCons (mVar 7) mNil)) mNil)) mNil)) (mCall 1 f__law_told (mCons (mCall 2 C.f__law_shuffled (mCons (mVar 2) (mCons (mVar 7) mNil))) mNil))) (mSeq (mIfS (mOrT (mNotT (mTr (mCall 2 (C.f__law_is_that 6) (mCons (mLst (mCons (mMeth 45 1 "standing" C.f_Season_standing (mVar 8) mNil) (mCons (mMeth 45 1 "standing" C.f_Season_standing (mVar 9) mNil) mNil))) (mCons (mBin gMul (mLst (mCons (mMeth 45 1 "standing" C.f_Season_standing (mVar 6) mNil) mNil)) (mC (.int 2))) mNil))))) (mTb (mBin (gEqI 45) (mVar 8) (mVar 6)))) (mRet (mC (.bl false))) mNext) (mSeq (mSet 4 (mLc [3] (mArgs rng1 (mCons (mC (.int 3)) mNil)) (tgName 3) mYes (mCall 1 f__law_game (mCons (mVar 2) mNil)))) (mSeq (mSet 5 (mCall 1 f__law_told (mCons (mBin gAdd (mVar 7) (mVar 4)) mNil))) (mSeq (mFor (mItm itsA (mMeth 45 1 "standing" C.f_Season_standing (mVar 5) mNil)) (tgTup 3 (tgCons (tgName 10) (tgCons (tgName 11) (tgCons (tgName 12) tgNil)))) (mSeq (mSet 13 (mLst (mCons (mCall 2 f__law_counted (mCons (mVar 7) (mCons (mVar 10) mNil))) (mCons (mCall 2 f__law_counted (mCons (mVar 4) (mCons (mVar 10) mNil))) mNil)))) (mIfS (mNotT (mTr (mCall 2 (C.f__law_is_that 6) (mCons (mLst (mCons (mVar 11) (mCons (mVar 12) mNil))) (mCons (mLst (mCons (mBin gAdd (mBin gIx (mBin gIx (mVar 13) (mC (.int 0))) (mC (.int 0))) (mBin gIx (mBin gIx (mVar 13) (mC (.int 1))) (mC (.int 0)))) (mCons (mBin gAdd (mBin gIx (mBin gIx (mVar 13) (mC (.int 0))) (mC (.int 1))) (mBin gIx (mBin gIx (mVar 13) (mC (.int 1))) (mC (.int 1)))) mNil))) mNil))))) (mRet (mC (.bl false))) mNext))) (mSeq (mFor (mArgs rng1 (mCons (mCB cLen (mCons (mVar 7) mNil)) mNil)) (tgName 3) (mExpr (mMeth 45 1 "undo" C.f_Season_undo (mVar 6) mNil))) (mIfS (mOrT (mNotT (mTr (mCall 1 f__law_has_none (mCons (mVar 6) mNil)))) (mNotT (mTr (mCall 2 (C.f__law_is_that 6) (mCons (mMeth 45 1 "standing" C.f_Season_standing (mVar 6) mNil) (mCons (mTup mNil) mNil)))))) (mRet (mC (.bl false))) mNext)))))))))))) (mRet (mC (.bl true))))
theorem r_law (T : Top mg base g) : FnM P w mg base g 9 "law" "law" s_law ["script"] 1 f_law :=
  (FnM.mk' T.at_law sc_law rfl fun f cdv A outer s H E hm hcv hr tk hp =>
    (ms_cons (ms_for [1] hp rfl (mi_any rfl (me_tup (ma_cons me_int (ma_cons me_int ma_nil)))) (mg_name 1 sc_law.nd) (ms_cons (ms_set 2 sc_law.nd (me_call rfl (r__law_mill T) (hr.mono (by decide)) tk (ma_cons (me_var 0) (ma_cons (me_var 1) ma_nil)))) (ms_cons (ms_par 6 7 rfl sc_law.nd (me_make0 rfl (r_Season_init T) (hr.mono (by decide))) (me_lst ma_nil)) (ms_cons (ms_if (PW.pt (mw_or (mt_not (mt_tr rfl (me_call rfl (r__law_has_none T) (hr.mono (by decide)) tk (ma_cons (me_var 6) ma_nil)))) (mw_or1 (mt_not (mt_tr rfl (me_call rfl (r__law_season_right T) (hr.mono (by decide)) tk (ma_cons (me_var 6) (ma_cons (me_var 7) ma_nil)))))))) (ms_one (ms_ret me_bl)) ms_nil) (ms_cons (ms_for [3] hp rfl (mi_rng1 rfl T.b_range (ma_cons me_int ma_nil)) (mg_name 3 sc_law.nd) (ms_cons (ms_if (PW.pt (mw_and (mt_cmp (om_neX rfl (hu64 hr)) (me_var 7) (me_lst ma_nil)) (mw_and1 (mt_cmp (om_eqX rfl (hu64 hr)) (me_call rfl (r__law_grind T) (hr.mono (by decide)) tk (ma_cons (me_var 2) (ma_cons me_int ma_nil))) me_int)))) (ms_cons (ms_if (mt_cmp (om_isNot) (me_meth0 rfl (r_Season_undo T) (hr.mono (by decide)) tk (me_var 6)) me_non) (ms_one (ms_ret me_bl)) ms_nil) (ms_one (ms_set 7 sc_law.nd (me_slice rfl (me_var 7) mo_none (mo_some (me_neg me_int)))))) (ms_cons (ms_set 7 sc_law.nd (me_bin (om_add rfl) (me_var 7) (me_lst (ma_cons (me_call rfl (r__law_game T) (hr.mono (by decide)) tk (ma_cons (me_var 2) ma_nil)) ma_nil)))) (ms_one (ms_if (mt_cmp (om_isNot) (me_meth rfl (r_Season_add T) (hr.mono (by decide)) tk (me_var 6) (ma_cons (me_ix rfl (hu1 hr) (me_var 7) (me_neg me_int)) ma_nil)) me_non) (ms_one (ms_ret me_bl)) ms_nil)))) (ms_one (ms_if (mt_not (mt_tr rfl (me_call rfl (r__law_season_right T) (hr.mono (by decide)) tk (ma_cons (me_var 6) (ma_cons (me_var 7) ma_nil))))) (ms_one (ms_ret me_bl)) ms_nil)))) (ms_cons (ms_par 8 9 rfl sc_law.nd (me_call rfl (r__law_told T) (hr.mono (by decide)) tk (ma_cons (me_call rfl (r_read_season T) (hr.mono (by decide)) tk (ma_cons (me_call rfl (r__law_text_of T) (hr.mono (by decide)) tk (ma_cons (me_var 7) ma_nil)) ma_nil)) ma_nil)) (me_call rfl (r__law_told T) (hr.mono (by decide)) tk (ma_cons (me_call rfl (r__law_shuffled T) (hr.mono (by decide)) tk (ma_cons (me_var 2) (ma_cons (me_var 7) ma_nil))) ma_nil))) (ms_cons (ms_if (PW.pt (mw_or (mt_not (mt_tr rfl (me_call rfl (r__law_is_that T 6) (hr.mono (by decide)) tk (ma_cons (me_lst (ma_cons (me_meth0 rfl (r_Season_standing T) (hr.mono (by decide)) tk (me_var 8)) (ma_cons (me_meth0 rfl (r_Season_standing T) (hr.mono (by decide)) tk (me_var 9)) ma_nil))) (ma_cons (me_bin (om_mul) (me_lst (ma_cons (me_meth0 rfl (r_Season_standing T) (hr.mono (by decide)) tk (me_var 6)) ma_nil)) me_int) ma_nil))))) (mw_or1 (mt_cmp (om_eqM rfl (hu0 hr) T.e_Season) (me_var 8) (me_var 6))))) (ms_one (ms_ret me_bl)) ms_nil) (ms_cons (ms_setLc 4 [("turn", 3)] rfl sc_law.nd (mi_rng1 rfl T.b_range (ma_cons me_int ma_nil)) (blkOk_by (by rfl)) (fun _ _ _ _ _ => (mg_name 3 sc_law.nd)) (fun _ _ _ _ _ => mts_nil) (fun _ _ _ _ _ => (me_call rfl (r__law_game T) (hr.mono (by decide)) ML.takes0 (ma_cons (me_var 2) ma_nil)))) (ms_cons (ms_set 5 sc_law.nd (me_call rfl (r__law_told T) (hr.mono (by decide)) tk (ma_cons (me_bin (om_add rfl) (me_var 7) (me_var 4)) ma_nil))) (ms_cons (ms_for [10, 11, 12] hp rfl (mi_any rfl (me_meth0 rfl (r_Season_standing T) (hr.mono (by decide)) tk (me_var 5))) (mg_tup 3 rfl rfl (mgs_cons (mg_name 10 sc_law.nd) (mgs_cons (mg_name 11 sc_law.nd) (mgs_cons (mg_name 12 sc_law.nd) mgs_nil)))) (ms_cons (ms_set 13 sc_law.nd (me_lst (ma_cons (me_call rfl (r__law_counted T) (hr.mono (by decide)) tk (ma_cons (me_var 7) (ma_cons (me_var 10) ma_nil))) (ma_cons (me_call rfl (r__law_counted T) (hr.mono (by decide)) tk (ma_cons (me_var 4) (ma_cons (me_var 10) ma_nil))) ma_nil)))) (ms_one (ms_if (mt_not (mt_tr rfl (me_call rfl (r__law_is_that T 6) (hr.mono (by decide)) tk (ma_cons (me_lst (ma_cons (me_var 11) (ma_cons (me_var 12) ma_nil))) (ma_cons (me_lst (ma_cons (me_bin (om_add rfl) (me_ix rfl (hu1 hr) (me_ix rfl (hu1 hr) (me_var 13) me_int) me_int) (me_ix rfl (hu1 hr) (me_ix rfl (hu1 hr) (me_var 13) me_int) me_int)) (ma_cons (me_bin (om_add rfl) (me_ix rfl (hu1 hr) (me_ix rfl (hu1 hr) (me_var 13) me_int) me_int) (me_ix rfl (hu1 hr) (me_ix rfl (hu1 hr) (me_var 13) me_int) me_int)) ma_nil))) ma_nil))))) (ms_one (ms_ret me_bl)) ms_nil)))) (ms_cons (ms_for [3] hp rfl (mi_rng1 rfl T.b_range (ma_cons (me_callB (cm_len rfl) bb_len T.b_len (ma_cons (me_var 7) ma_nil)) ma_nil)) (mg_name 3 sc_law.nd) (ms_one (ms_expr (me_meth0 rfl (r_Season_undo T) (hr.mono (by decide)) tk (me_var 6))))) (ms_one (ms_if (PW.pt (mw_or (mt_not (mt_tr rfl (me_call rfl (r__law_has_none T) (hr.mono (by decide)) tk (ma_cons (me_var 6) ma_nil)))) (mw_or1 (mt_not (mt_tr rfl (me_call rfl (r__law_is_that T 6) (hr.mono (by decide)) tk (ma_cons (me_meth0 rfl (r_Season_standing T) (hr.mono (by decide)) tk (me_var 6)) (ma_cons (me_tup ma_nil) ma_nil)))))))) (ms_one (ms_ret me_bl)) ms_nil))))))))))))) (ms_one (ms_ret me_bl))))
end
end K80
set_option Elab.async false
set_option linter.all false
set_option maxRecDepth 100000
set_option maxHeartbeats 4000000
set_option autoImplicit false
namespace K80
open PySem PySem.Spec PyProof.Rows L2 ML LamX
def cls0 : List Str := ["ThreeError",
  "ThreeError",
  "ThreeError",
  "ThreeError",
  "ThreeError",
  "ThreeError",
  "ThreeError",
  "ThreeError",
  "ThreeError",
  "ThreeError",
  "ThreeError",
  "ThreeError",
  "ThreeError",
  "ThreeError",
  "ThreeError",
  "ThreeError",
  "InvalidText",
  "ThreeError",
  "InvalidGame",
  "ThreeError",
  "ThreeError",
  "ThreeError",
  "ThreeError",
  "ThreeError",
  "UnknownName",
  "DoesNotFit",
  "ThreeError",
  "NothingToUndo",
  "ThreeError",
  "ThreeError"]
def cls1 : List Str := ["ThreeError",
  "ThreeError",
  "ThreeError",
  "ThreeError",
  "ThreeError",
  "ThreeError",
  "ThreeError",
  "ThreeError",
  "ThreeError",
  "ThreeError",
  "ThreeError",
  "ThreeError",
  "ThreeError",
  "ThreeError",
  "ThreeError",
  "Season"]
def cls : List Str := cls0 ++ cls1
def tl : List (He.Defn × Str) := [(("_law_season_right", none), "_law_season_right.<locals>.<lambda>")]
def fn0 : List He.DefD := [dfn ("is_whole", none) "is_whole" "is_whole" s_is_whole,
  dfn ("is_between", none) "is_between" "is_between" s_is_between,
  dfn ("is_tuple_of", none) "is_tuple_of" "is_tuple_of" s_is_tuple_of,
  dfn ("is_text_of", none) "is_text_of" "is_text_of" s_is_text_of,
  dfn ("is_name", none) "is_name" "is_name" s_is_name,
  dfn ("is_result", none) "is_result" "is_result" s_is_result,
  dfn ("is_game", none) "is_game" "is_game" s_is_game,
  dfn ("games_of", none) "games_of" "games_of" s_games_of,
  dfn ("total_of", none) "total_of" "total_of" s_total_of,
  dfn ("wins_of", none) "wins_of" "wins_of" s_wins_of,
  dfn ("names_in", none) "names_in" "names_in" s_names_in,
  dfn ("standing_of", none) "standing_of" "standing_of" s_standing_of,
  dfn ("has_beaten", none) "has_beaten" "has_beaten" s_has_beaten,
  dfn ("Season", some "__init__") "__init__" "Season.__init__" s_Season_init,
  dfn ("Season", some "need") "need" "Season.need" s_Season_need,
  dfn ("Season", some "add") "add" "Season.add" s_Season_add,
  dfn ("Season", some "undo") "undo" "Season.undo" s_Season_undo,
  dfn ("Season", some "total") "total" "Season.total" s_Season_total,
  dfn ("Season", some "wins") "wins" "Season.wins" s_Season_wins,
  dfn ("Season", some "games") "games" "Season.games" s_Season_games,
  dfn ("Season", some "standing") "standing" "Season.standing" s_Season_standing,
  dfn ("Season", some "beaten") "beaten" "Season.beaten" s_Season_beaten,
  dfn ("points_told", none) "points_told" "points_told" s_points_told,
  dfn ("result_told", none) "result_told" "result_told" s_result_told,
  dfn ("text_of_game", none) "text_of_game" "text_of_game" s_text_of_game,
  dfn ("text_of_games", none) "text_of_games" "text_of_games" s_text_of_games,
  dfn ("games_told", none) "games_told" "games_told" s_games_told,
  dfn ("check_told", none) "check_told" "check_told" s_check_told,
  dfn ("season_text", none) "season_text" "season_text" s_season_text,
  dfn ("read_season", none) "read_season" "read_season" s_read_season]
def fn1 : List He.DefD := [dfn ("_law_mill", none) "_law_mill" "_law_mill" s__law_mill,
  dfn ("_law_grind", none) "_law_grind" "_law_grind" s__law_grind,
  dfn ("_law_among", none) "_law_among" "_law_among" s__law_among,
  dfn ("_law_shuffled", none) "_law_shuffled" "_law_shuffled" s__law_shuffled,
  dfn ("_law_is_that", none) "_law_is_that" "_law_is_that" s__law_is_that,
  dfn ("_law_players", none) "_law_players" "_law_players" s__law_players,
  dfn ("_law_game", none) "_law_game" "_law_game" s__law_game,
  dfn ("_law_counted", none) "_law_counted" "_law_counted" s__law_counted,
  dfn ("_law_beaten", none) "_law_beaten" "_law_beaten" s__law_beaten,
  dfn ("_law_standing", none) "_law_standing" "_law_standing" s__law_standing,
  dfn ("_law_text_of", none) "_law_text_of" "_law_text_of" s__law_text_of,
  dfn ("_law_is_unknown", none) "_law_is_unknown" "_law_is_unknown" s__law_is_unknown,
  dfn ("_law_season_right", none) "_law_season_right" "_law_season_right" s__law_season_right,
  dfn ("_law_has_none", none) "_law_has_none" "_law_has_none" s__law_has_none,
  dfn ("_law_told", none) "_law_told" "_law_told" s__law_told,
  dfn ("law", none) "law" "law" s_law,
  dfn ("InvalidText", some "__init__") "__init__" "InvalidText.__init__" s_x_InvalidText,
  dfn ("InvalidGame", some "__init__") "__init__" "InvalidGame.__init__" s_x_InvalidGame,
  dfn ("UnknownName", some "__init__") "__init__" "UnknownName.__init__" s_x_UnknownName,
  dfn ("DoesNotFit", some "__init__") "__init__" "DoesNotFit.__init__" s_x_DoesNotFit,
  dfn ("NothingToUndo", some "__init__") "__init__" "NothingToUndo.__init__" s_x_NothingToUndo]
def fn : List He.DefD := fn0 ++ fn1
def fa0 : List He.Fa := [.glo "is_whole",
  .glo "is_between",
  .glo "is_tuple_of",
  .glo "is_text_of",
  .glo "is_name",
  .glo "is_result",
  .glo "is_game",
  .glo "games_of",
  .glo "total_of",
  .glo "wins_of",
  .glo "names_in",
  .glo "standing_of",
  .glo "has_beaten",
  .glo "Season",
  .cls "Season",
  .mkr "Season",
  .meth "Season" "need",
  .meth "Season" "add",
  .meth "Season" "undo",
  .meth "Season" "total",
  .meth "Season" "wins",
  .meth "Season" "games",
  .meth "Season" "standing",
  .meth "Season" "beaten",
  .glo "points_told",
  .glo "result_told",
  .glo "text_of_game",
  .glo "text_of_games",
  .glo "games_told",
  .glo "check_told"]
def fa1 : List He.Fa := [.glo "season_text",
  .glo "read_season",
  .glo "_law_mill",
  .glo "_law_grind",
  .glo "_law_among",
  .glo "_law_shuffled",
  .glo "_law_is_that",
  .glo "_law_players",
  .glo "_law_game",
  .glo "_law_counted",
  .glo "_law_beaten",
  .glo "_law_standing",
  .glo "_law_text_of",
  .glo "_law_is_unknown",
  .glo "_law_season_right",
  .glo "_law_has_none",
  .glo "_law_told",
  .glo "law",
  .glo "InvalidText",
  .glo "InvalidGame",
  .glo "UnknownName",
  .glo "DoesNotFit",
  .glo "NothingToUndo",
  .noat "Season" "kept",
  .str "SMALL_LETTERS" "abcdefghijklmnopqrstuvwxyz",
  .int "LONGEST_NAME" 8,
  .int "MOST_PLAYERS" 8,
  .int "MOST_POINTS" 99,
  .int "MOST_GAMES" 200,
  .str "BLANK" " "]
def fa2 : List He.Fa := [.str "COLON" ":",
  .str "LINE_END" "\n",
  .str "MINUS" "-",
  .str "NO_GAMES" "-",
  .str "DIGITS" "0123456789",
  .free "abs",
  .free "all",
  .free "bool",
  .free "dict",
  .free "divmod",
  .free "enumerate",
  .free "int",
  .free "isinstance",
  .free "len",
  .free "list",
  .free "max",
  .free "range",
  .free "set",
  .free "sorted",
  .free "str",
  .free "sum",
  .free "tuple",
  .free "zip"]
def fa : List He.Fa := fa0 ++ fa1 ++ fa2
def fx0 : List Fx := [.exc "InvalidText" "given",
  .exc "InvalidGame" "given",
  .exc "UnknownName" "given",
  .exc "DoesNotFit" "given",
  .exc "NothingToUndo" "given",
  .eqm "Season",
  .isa "Season",
  .isb "Season" "Season" true,
  .try_ "NothingToUndo" [("InvalidText", false), ("InvalidGame", false), ("UnknownName", false), ("DoesNotFit", false), ("NothingToUndo", true)],
  .try_ "UnknownName" [("InvalidText", false), ("InvalidGame", false), ("UnknownName", true), ("DoesNotFit", false), ("NothingToUndo", false)],
  .xf "NothingToUndo" "given",
  .xf "UnknownName" "given",
  .tabs (tl.map (·.1))]
def fx : List Fx := fx0
def loose0 : List Str := ["_wall",
  "ThreeError",
  "InvalidText",
  "InvalidGame",
  "UnknownName",
  "DoesNotFit",
  "NothingToUndo",
  "SMALL_LETTERS",
  "LONGEST_NAME",
  "is_whole",
  "is_between",
  "is_tuple_of",
  "is_text_of",
  "is_name",
  "MOST_PLAYERS",
  "MOST_POINTS",
  "is_result",
  "is_game",
  "games_of",
  "total_of",
  "wins_of",
  "names_in",
  "standing_of",
  "has_beaten",
  "MOST_GAMES",
  "Season",
  "BLANK",
  "COLON",
  "LINE_END",
  "MINUS"]
def loose1 : List Str := ["NO_GAMES",
  "DIGITS",
  "points_told",
  "result_told",
  "text_of_game",
  "text_of_games",
  "games_told",
  "check_told",
  "season_text",
  "read_season",
  "_law_mill",
  "_law_grind",
  "_law_among",
  "_law_shuffled",
  "_law_is_that",
  "_law_players",
  "_law_game",
  "_law_counted",
  "_law_beaten",
  "_law_standing",
  "_law_text_of",
  "_law_is_unknown",
  "_law_season_right",
  "_law_has_none",
  "_law_told"]
def loose : List Str := loose0 ++ loose1
abbrev R : PySem.W.OpenRow := PySem.W.OpenLaw.row PySem.Challenge.rw_thirdgames_k80_whole_seasons_counted
abbrev hk : PySem.W.Hook := He.hookX 5 fa fn [] (tl.map (·.1)) (fun K => fx.all (Fx.ok K))
def ob (s : PySem.W.SharedT) : He.AlX := He.obsX 5 fa fn [] (tl.map (·.1)) (fun K => fx.all (Fx.ok K)) (HandSHeadRun.getT s)
theorem ob_eq (s : PySem.W.SharedT) : ob s = hk.obs s.abs := He.obsX_eq (HandSHeadRun.getT_eq s)
theorem run (w : World) : HandSHeadRun.RunEq R (PySem.W.view R.prog [62]) hk ob 6000 loose w := by
  intro os
  kernel_rfl
theorem top_of {w : World} {h : Heap} {K : PySem.W.Frag} {mg : Str → Option Value} {base : Heap} (c : HdC fa fn tl fx w h K mg) (B : ∀ p ∈ (tl.map (·.1)).map (He.cT K), TabB base mg p.1 p.2) : Top mg base (gdOf K cls tl) :=
  { at_is_whole := c.at_ 0 0 rfl rfl (fun _ _ _ _ _ _ us hl => match us, hl with | [_], _ => rfl)
    at_is_between := c.at_ 1 1 rfl rfl (fun _ _ _ _ _ _ us hl => match us, hl with | [_, _, _], _ => rfl)
    at_is_tuple_of := c.at_ 2 2 rfl rfl (fun _ _ _ _ _ _ us hl => match us, hl with | [_, _], _ => rfl)
    at_is_text_of := c.at_ 3 3 rfl rfl (fun _ _ _ _ _ _ us hl => match us, hl with | [_, _], _ => rfl)
    at_is_name := c.at_ 4 4 rfl rfl (fun _ _ _ _ _ _ us hl => match us, hl with | [_], _ => rfl)
    at_is_result := c.at_ 5 5 rfl rfl (fun _ _ _ _ _ _ us hl => match us, hl with | [_], _ => rfl)
    at_is_game := c.at_ 6 6 rfl rfl (fun _ _ _ _ _ _ us hl => match us, hl with | [_], _ => rfl)
    at_games_of := c.at_ 7 7 rfl rfl (fun _ _ _ _ _ _ us hl => match us, hl with | [_, _], _ => rfl)
    at_total_of := c.at_ 8 8 rfl rfl (fun _ _ _ _ _ _ us hl => match us, hl with | [_, _], _ => rfl)
    at_wins_of := c.at_ 9 9 rfl rfl (fun _ _ _ _ _ _ us hl => match us, hl with | [_, _], _ => rfl)
    at_names_in := c.at_ 10 10 rfl rfl (fun _ _ _ _ _ _ us hl => match us, hl with | [_], _ => rfl)
    at_standing_of := c.at_ 11 11 rfl rfl (fun _ _ _ _ _ _ us hl => match us, hl with | [_], _ => rfl)
    at_has_beaten := c.at_ 12 12 rfl rfl (fun _ _ _ _ _ _ us hl => match us, hl with | [_, _, _], _ => rfl)
    ai_Season := c.ai 13 13 14 15 rfl rfl rfl rfl rfl (fun _ _ _ _ _ _ us hl => match us, hl with | [_], _ => rfl)
    am_Season_need := c.am 14 14 16 rfl rfl rfl rfl (fun _ _ _ _ _ _ us hl => match us, hl with | [_, _], _ => rfl)
    am_Season_add := c.am 15 14 17 rfl rfl rfl rfl (fun _ _ _ _ _ _ us hl => match us, hl with | [_, _], _ => rfl)
    am_Season_undo := c.am 16 14 18 rfl rfl rfl rfl (fun _ _ _ _ _ _ us hl => match us, hl with | [_], _ => rfl)
    am_Season_total := c.am 17 14 19 rfl rfl rfl rfl (fun _ _ _ _ _ _ us hl => match us, hl with | [_, _], _ => rfl)
    am_Season_wins := c.am 18 14 20 rfl rfl rfl rfl (fun _ _ _ _ _ _ us hl => match us, hl with | [_, _], _ => rfl)
    am_Season_games := c.am 19 14 21 rfl rfl rfl rfl (fun _ _ _ _ _ _ us hl => match us, hl with | [_, _], _ => rfl)
    am_Season_standing := c.am 20 14 22 rfl rfl rfl rfl (fun _ _ _ _ _ _ us hl => match us, hl with | [_], _ => rfl)
    am_Season_beaten := c.am 21 14 23 rfl rfl rfl rfl (fun _ _ _ _ _ _ us hl => match us, hl with | [_, _], _ => rfl)
    at_points_told := c.at_ 22 24 rfl rfl (fun _ _ _ _ _ _ us hl => match us, hl with | [_], _ => rfl)
    at_result_told := c.at_ 23 25 rfl rfl (fun _ _ _ _ _ _ us hl => match us, hl with | [_], _ => rfl)
    at_text_of_game := c.at_ 24 26 rfl rfl (fun _ _ _ _ _ _ us hl => match us, hl with | [_], _ => rfl)
    at_text_of_games := c.at_ 25 27 rfl rfl (fun _ _ _ _ _ _ us hl => match us, hl with | [_], _ => rfl)
    at_games_told := c.at_ 26 28 rfl rfl (fun _ _ _ _ _ _ us hl => match us, hl with | [_, _], _ => rfl)
    at_check_told := c.at_ 27 29 rfl rfl (fun _ _ _ _ _ _ us hl => match us, hl with | [_, _], _ => rfl)
    at_season_text := c.at_ 28 30 rfl rfl (fun _ _ _ _ _ _ us hl => match us, hl with | [_], _ => rfl)
    at_read_season := c.at_ 29 31 rfl rfl (fun _ _ _ _ _ _ us hl => match us, hl with | [_], _ => rfl)
    at__law_mill := c.at_ 30 32 rfl rfl (fun _ _ _ _ _ _ us hl => match us, hl with | [_, _], _ => rfl)
    at__law_grind := c.at_ 31 33 rfl rfl (fun _ _ _ _ _ _ us hl => match us, hl with | [_, _], _ => rfl)
    at__law_among := c.at_ 32 34 rfl rfl (fun _ _ _ _ _ _ us hl => match us, hl with | [_, _], _ => rfl)
    at__law_shuffled := c.at_ 33 35 rfl rfl (fun _ _ _ _ _ _ us hl => match us, hl with | [_, _], _ => rfl)
    at__law_is_that := c.at_ 34 36 rfl rfl (fun _ _ _ _ _ _ us hl => match us, hl with | [_, _], _ => rfl)
    at__law_players := c.at_ 35 37 rfl rfl (fun _ _ _ _ _ _ us hl => match us, hl with | [], _ => rfl)
    at__law_game := c.at_ 36 38 rfl rfl (fun _ _ _ _ _ _ us hl => match us, hl with | [_], _ => rfl)
    at__law_counted := c.at_ 37 39 rfl rfl (fun _ _ _ _ _ _ us hl => match us, hl with | [_, _], _ => rfl)
    at__law_beaten := c.at_ 38 40 rfl rfl (fun _ _ _ _ _ _ us hl => match us, hl with | [_, _], _ => rfl)
    at__law_standing := c.at_ 39 41 rfl rfl (fun _ _ _ _ _ _ us hl => match us, hl with | [_], _ => rfl)
    at__law_text_of := c.at_ 40 42 rfl rfl (fun _ _ _ _ _ _ us hl => match us, hl with | [_], _ => rfl)
    at__law_is_unknown := c.at_ 41 43 rfl rfl (fun _ _ _ _ _ _ us hl => match us, hl with | [_, _], _ => rfl)
    at__law_season_right := c.at_ 42 44 rfl rfl (fun _ _ _ _ _ _ us hl => match us, hl with | [_, _], _ => rfl)
    at__law_has_none := c.at_ 43 45 rfl rfl (fun _ _ _ _ _ _ us hl => match us, hl with | [_], _ => rfl)
    at__law_told := c.at_ 44 46 rfl rfl (fun _ _ _ _ _ _ us hl => match us, hl with | [_], _ => rfl)
    at_law := c.at_ 45 47 rfl rfl (fun _ _ _ _ _ _ us hl => match us, hl with | [_], _ => rfl)
    ax_InvalidText := c.ax 46 48 0 rfl rfl rfl rfl (fun _ _ _ _ _ _ us hl => match us, hl with | [_, _], _ => rfl)
    ax_InvalidGame := c.ax 47 49 1 rfl rfl rfl rfl (fun _ _ _ _ _ _ us hl => match us, hl with | [_, _], _ => rfl)
    ax_UnknownName := c.ax 48 50 2 rfl rfl rfl rfl (fun _ _ _ _ _ _ us hl => match us, hl with | [_, _], _ => rfl)
    ax_DoesNotFit := c.ax 49 51 3 rfl rfl rfl rfl (fun _ _ _ _ _ _ us hl => match us, hl with | [_, _], _ => rfl)
    ax_NothingToUndo := c.ax 50 52 4 rfl rfl rfl rfl (fun _ _ _ _ _ _ us hl => match us, hl with | [_, _], _ => rfl)
    f_Season_kept := c.fld 14 53 rfl rfl rfl
    e_Season := c.eqm 5 rfl rfl
    c_SMALL_LETTERS := c.str 54 rfl
    c_LONGEST_NAME := c.int 55 rfl
    c_MOST_PLAYERS := c.int 56 rfl
    c_MOST_POINTS := c.int 57 rfl
    c_MOST_GAMES := c.int 58 rfl
    c_BLANK := c.str 59 rfl
    c_COLON := c.str 60 rfl
    c_LINE_END := c.str 61 rfl
    c_MINUS := c.str 62 rfl
    c_NO_GAMES := c.str 63 rfl
    c_DIGITS := c.str 64 rfl
    b_abs := c.free 65 rfl
    b_all := c.free 66 rfl
    b_bool := c.free 67 rfl
    b_dict := c.free 68 rfl
    b_divmod := c.free 69 rfl
    b_enumerate := c.free 70 rfl
    b_int := c.free 71 rfl
    b_isinstance := c.free 72 rfl
    b_len := c.free 73 rfl
    b_list := c.free 74 rfl
    b_max := c.free 75 rfl
    b_range := c.free 76 rfl
    b_set := c.free 77 rfl
    b_sorted := c.free 78 rfl
    b_str := c.free 79 rfl
    b_sum := c.free 80 rfl
    b_tuple := c.free 81 rfl
    b_zip := c.free 82 rfl
    is_Season := c.isa 13 6 rfl rfl (fun n b hb => by
      unfold isOf at hb
      split at hb
      · rename_i e; subst e; cases hb; exact c.isb 7 rfl rfl
      cases hb)
    t_NothingToUndo := c.try_ 52 8 rfl rfl (by decide +kernel)
    t_UnknownName := c.try_ 50 9 rfl rfl (by decide +kernel)
    xf_NothingToUndo_given := fun k hk => by
      have : k = 27 := by
        have := memL hk
        simp [tc_NothingToUndo] at this
        exact this
      subst this
      exact c.xf 10 rfl rfl
    xf_UnknownName_given := fun k hk => by
      have : k = 24 := by
        have := memL hk
        simp [tc_UnknownName] at this
        exact this
      subst this
      exact c.xf 11 rfl rfl
    tab__law_season_right := fun f hf => by
      have e := He.glo_ok c.X c.G (c.fact 44 (f := .glo "_law_season_right") rfl)
      rw [hf] at e
      cases e
      exact c.tab 42 12 0 rfl rfl rfl B }
theorem law_at {w : World} {h : Heap} {K : PySem.W.Frag} {mg : Str → Option Value} {f0 : Addr} (c : HdC fa fn tl fx w h K mg) (hf : mg "law" = some (.ref f0)) (hm : ∀ ns : List Int, ns.length ≤ 63 → (∀ z ∈ ns, Builtin.Int.intBits z ≤ 1048576) → ∃ h', f_law [.scr (ns.map D.int)] [] = .ok (.bl true) h') :
    LawAtS PySem.Challenge.rw_thirdgames_k80_whole_seasons_counted w K (L2.CX (PySem.Challenge.rw_thirdgames_k80_whole_seasons_counted).prog w) 9 63 "script" mg f0 h :=
  c.law 45 47 rfl rfl hf (fun _ _ _ _ _ _ us hl => match us, hl with | [_], _ => rfl) (fun base B => r_law (top_of c B)) hm
end K80
set_option Elab.async false
set_option linter.all false
set_option maxRecDepth 100000
set_option maxHeartbeats 2000000
set_option autoImplicit false
/-! R: what the readings of constructs come to, for simp. -/
namespace ML
open PySem PySem.Spec PyProof.Rows L2

def slotR (o : Option (Option D)) (h : MH) : Res D := match o with
  | some (some d) => .ok d h | _ => .stuck
@[simp] theorem slotR_some (d : D) (h : MH) : slotR (some (some d)) h = .ok d h := (rfl)
/-- on, if it goes on -/
def SR.nxt (r : SR) (b : MS) : SR := match r with
  | .next ds1 h1 => b ds1 h1 | r => r
@[simp] theorem nxt_next (ds : Sl) (h : MH) (b : MS) : (SR.next ds h).nxt b = b ds h := (rfl)
@[simp] theorem nxt_ret (d : D) (h : MH) (b : MS) : (SR.ret d h).nxt b = .ret d h := (rfl)
@[simp] theorem nxt_brk (ds : Sl) (h : MH) (b : MS) : (SR.brk ds h).nxt b = .brk ds h := (rfl)
@[simp] theorem nxt_cont (ds : Sl) (h : MH) (b : MS) : (SR.cont ds h).nxt b = .cont ds h := (rfl)
@[simp] theorem nxt_exc (x : Exn) (ds : Sl) (h : MH) (b : MS) : (SR.exc x ds h).nxt b = .exc x ds h := (rfl)
@[simp] theorem nxt_stuck (b : MS) : SR.stuck.nxt b = .stuck := (rfl)
theorem nxt_ite {c : Prop} [Decidable c] (x y : SR) (b : MS) : (if c then x else y).nxt b = if c then x.nxt b else y.nxt b := by split <;> rfl
/-- a def's end -/
def SR.fin (r : SR) : Res D := match r with
  | .next _ h' => .ok .non h' | .ret d h' => .ok d h' | .exc x _ h' => .exc x h' | _ => .stuck
@[simp] theorem fin_next (ds : Sl) (h : MH) : (SR.next ds h).fin = .ok .non h := (rfl)
@[simp] theorem fin_ret (d : D) (h : MH) : (SR.ret d h).fin = .ok d h := (rfl)
@[simp] theorem fin_exc (x : Exn) (ds : Sl) (h : MH) : (SR.exc x ds h).fin = .exc x h := (rfl)
@[simp] theorem fin_stuck : SR.stuck.fin = .stuck := (rfl)
theorem fin_ite {c : Prop} [Decidable c] (x y : SR) : (if c then x else y).fin = if c then x.fin else y.fin := by split <;> rfl
theorem bind_ite {α β : Type} {c : Prop} [Decidable c] (x y : Res α) (k : α → MH → Res β) : (if c then x else y).bind k = if c then x.bind k else y.bind k := by split <;> rfl
theorem lift_ite {α : Type} {c : Prop} [Decidable c] (x y : Res α) (ds : Sl) (k : α → MH → SR) : lift (if c then x else y) ds k = if c then lift x ds k else lift y ds k := by split <;> rfl
section
variable {ds : Sl} {h : MH}
@[simp] theorem x_Var (i : Nat) : mVar i ds h = slotR ds[i]? h := (rfl)
@[simp] theorem x_C (d : D) : mC d ds h = .ok d h := (rfl)
@[simp] theorem x_Bin (f : O2) (ma mb : ME) : mBin f ma mb ds h = (ma ds h).bind fun a h1 => (mb ds h1).bind fun b h2 => Res.of (f a b h2) := (rfl)
@[simp] theorem x_Tb (m : ME) : mTb m ds h = (m ds h).bind fun d h1 => onBl d fun b => .ok b h1 := (rfl)
@[simp] theorem x_Tr (m : ME) : mTr m ds h = (m ds h).bind fun d h1 => onSome (tru d h1) fun b => .ok b h1 := (rfl)
@[simp] theorem x_Chain (f f' : O2) (ma mb mc : ME) : mChain f f' ma mb mc ds h = (ma ds h).bind fun a h1 => (mb ds h1).bind fun b h2 => (Res.of (f a b h2)).bind fun z h3 => onBl z fun k =>
  if k then (mc ds h3).bind fun c h4 => Res.of (f' b c h4) else .ok (.bl false) h3 := rfl
@[simp] theorem x_AndT (ta tb : MT) : mAndT ta tb ds h = (ta ds h).bind fun c h1 => if c then tb ds h1 else .ok false h1 := (rfl)
@[simp] theorem x_OrT (ta tb : MT) : mOrT ta tb ds h = (ta ds h).bind fun c h1 => if c then .ok true h1 else tb ds h1 := (rfl)
@[simp] theorem x_NotT (ta : MT) : mNotT ta ds h = (ta ds h).bind fun c h1 => .ok (!c) h1 := (rfl)
@[simp] theorem x_And (ma mb : ME) : mAnd ma mb ds h = (ma ds h).bind fun a h1 => onSome (tru a h1) fun k => if k then mb ds h1 else .ok a h1 := (rfl)
@[simp] theorem x_Or (ma mb : ME) : mOr ma mb ds h = (ma ds h).bind fun a h1 => onSome (tru a h1) fun k => if k then .ok a h1 else mb ds h1 := (rfl)
@[simp] theorem x_Not (ma : ME) : mNot ma ds h = (ma ds h).bind fun a h1 => onSome (tru a h1) fun k => .ok (.bl (!k)) h1 := (rfl)
@[simp] theorem x_If (t : MT) (ma mb : ME) : mIf t ma mb ds h = (t ds h).bind fun c h1 => if c then ma ds h1 else mb ds h1 := (rfl)
@[simp] theorem x_Nil : mNil ds h = .ok [] h := (rfl)
@[simp] theorem x_Cons (ma : ME) (mr : MA) : mCons ma mr ds h = (ma ds h).bind fun a h1 => (mr ds h1).bind fun l h2 => .ok (a :: l) h2 := (rfl)
@[simp] theorem x_Tup (m : MA) : mTup m ds h = (m ds h).bind fun l h1 => if l.length ≤ sizeLine then .ok (.tup l) h1 else .stuck := (rfl)
@[simp] theorem x_Lst (m : MA) : mLst m ds h = (m ds h).bind fun l h1 => if l.length ≤ sizeLine then .ok (.lst l) h1 else .stuck := (rfl)
@[simp] theorem x_LstN (m : MA) : mLstN m ds h = (m ds h).bind fun l h1 => if l.length ≤ sizeLine then .ok (.ref h1.length) (h1 ++ [.lst l]) else .stuck := (rfl)
@[simp] theorem x_Next : mNext ds h = .next ds h := (rfl)
@[simp] theorem x_Seq (a b : MS) : mSeq a b ds h = (a ds h).nxt b := (rfl)
@[simp] theorem x_Expr (m : ME) : mExpr m ds h = lift (m ds h) ds fun _ h1 => .next ds h1 := (rfl)
@[simp] theorem x_Ret (m : ME) : mRet m ds h = lift (m ds h) ds fun d h1 => .ret d h1 := (rfl)
@[simp] theorem x_RetN : mRetN ds h = .ret .non h := (rfl)
@[simp] theorem x_Brk : mBrk ds h = .brk ds h := (rfl)
@[simp] theorem x_Cont : mCont ds h = .cont ds h := (rfl)
@[simp] theorem x_Stuck : mStuck ds h = .stuck := (rfl)
@[simp] theorem x_IfS (t : MT) (a b : MS) : mIfS t a b ds h = lift (t ds h) ds fun c h1 => if c then a ds h1 else b ds h1 := (rfl)
@[simp] theorem x_Set (i : Nat) (m : ME) : mSet i m ds h = lift (m ds h) ds fun d h1 => .next (ds.set i (some d)) h1 := (rfl)
@[simp] theorem x_tgName (i : Nat) (d : D) : tgName i d ds h = some (ds.set i (some d), h) := (rfl)
@[simp] theorem x_tgNil : tgNil [] ds h = some (ds, h) := (rfl)
@[simp] theorem x_tgCons (a : MG) (b : MGs) (d : D) (r : List D) : tgCons a b (d :: r) ds h = (a d ds h).bind fun q => b r q.1 q.2 := (rfl)
@[simp] theorem x_tgTup (n : Nat) (m : MGs) (l : List D) : tgTup n m (.tup l) ds h = if l.length = n then m l ds h else none := (rfl)
@[simp] theorem x_tgPair (n : Nat) (m : MGs) (l : List D) : tgPair n m l ds h = if l.length = n then m l ds h else none := (rfl)
@[simp] theorem x_tgLst (n : Nat) (m : MGs) (l : List D) : tgLst n m (.lst l) ds h = if l.length = n then m l ds h else none := (rfl)
/-- an assignment's target -/
def asgR (o : Option (Sl × MH)) : SR := match o with
  | some (ds', h') => .next ds' h' | none => .stuck
@[simp] theorem asgR_some (ds' : Sl) (h' : MH) : asgR (some (ds', h')) = .next ds' h' := (rfl)
@[simp] theorem x_Asg (e : ME) (t : MG) : mAsg e t ds h = lift (e ds h) ds fun d h1 => asgR (t d ds h1) := (rfl)
@[simp] theorem x_Par (i j : Nat) (ma mb : ME) : mPar i j ma mb ds h = lift ((ma ds h).bind fun a h1 => (mb ds h1).bind fun b h2 => .ok (a, b) h2) ds fun q h2 => .next ((ds.set i (some q.1)).set j (some q.2)) h2 := (rfl)
@[simp] theorem x_Frz (m : ME) : mFrz m ds h = (m ds h).bind fun d h1 => Res.of (frz1 d h1) := (rfl)
@[simp] theorem x_Fn (n N : Nat) (body : MS) (l : List D) : mFn n N body l h = if l.length = n then (body (l.map some ++ List.replicate (N - n) none) h).fin else .stuck := (rfl)
@[simp] theorem x_FnA (n N : Nat) (body : MS) (l : List D) : mFnA n N body l h = if l.length = n then (body (none :: (l.map some ++ List.replicate (N - (n + 1)) none)) h).fin else .stuck := (rfl)
@[simp] theorem x_Call (n : Nat) (m : List D → MH → Res D) (ma : MA) : mCall n m ma ds h = (ma ds h).bind fun l h1 => if l.length = n then m l h1 else .stuck := (rfl)
@[simp] theorem x_CB (m : C1) (ma : MA) : mCB m ma ds h = (ma ds h).bind fun l h1 => Res.of (m l h1) := (rfl)
@[simp] theorem x_NoPart : mNoPart ds h = .ok none h := (rfl)
def partR (d : D) (h : MH) : Res (Option Int) := match d with | .int i => .ok (some i) h | _ => .stuck
@[simp] theorem partR_int (i : Int) : partR (.int i) h = .ok (some i) h := (rfl)
@[simp] theorem x_Part (m : ME) : mPart m ds h = (m ds h).bind fun d h1 => partR d h1 := (rfl)
@[simp] theorem x_Sl (m : ME) (lo hi : MO) : mSl m lo hi ds h = (m ds h).bind fun d h1 => (lo ds h1).bind fun a h2 => (hi ds h2).bind fun b h3 => Res.of (gSl d a b h3) := (rfl)
@[simp] theorem x_BM (T : String) (f : M1) (mo : ME) (ma : MA) : mBM T f mo ma ds h = (mo ds h).bind fun a h1 => if isTy T a h1 then (ma ds h1).bind fun l h2 => Res.of (f a l h2) else .stuck := (rfl)
@[simp] theorem x_Fmt (m : ME) : mFmt m ds h = (m ds h).bind fun d h1 => onSome (fmtD d) fun x => .ok (.str x) h1 := (rfl)
def jsR (d : D) (acc : Str) (k : Str → Res D) : Res D := match d with
  | .str y => if (acc ++ y).length ≤ sizeLine then k (acc ++ y) else .stuck
  | _ => .stuck
@[simp] theorem jsR_str (y acc : Str) (k : Str → Res D) : jsR (.str y) acc k = if (acc ++ y).length ≤ sizeLine then k (acc ++ y) else .stuck := (rfl)
@[simp] theorem x_Js0 (acc : Str) : mJs [] acc ds h = .ok (.str acc) h := (rfl)
@[simp] theorem x_Js (m : ME) (ms : List ME) (acc : Str) : mJs (m :: ms) acc ds h = (m ds h).bind fun d h1 => jsR d acc fun z => mJs ms z ds h1 := (rfl)
@[simp] theorem x_Fld (c : Nat) (f : Str) (m : ME) : mFld c f m ds h = (m ds h).bind fun d h1 => onIns d h1 c fun _ fs => onSome (fs.lookup f) fun x => .ok x h1 := (rfl)
@[simp] theorem x_PutFld (c : Nat) (f : Str) (mo mv : ME) : mPutFld c f mo mv ds h = lift ((mv ds h).bind fun v h1 => (mo ds h1).bind fun d h2 => onIns d h2 c fun n fs => if fs.length < 1000 then Res.ok D.non (h2.set n (.ins c (putD f v fs))) else .stuck) ds fun _ h3 => .next ds h3 := (rfl)
def noFld {α : Type} (o : Option D) (r : Res α) : Res α := match o with | none => r | some _ => .stuck
@[simp] theorem noFld_none {α : Type} (r : Res α) : noFld none r = r := (rfl)
@[simp] theorem x_Meth (c n : Nat) (x : Str) (m : List D → MH → Res D) (mo : ME) (ma : MA) : mMeth c n x m mo ma ds h = (mo ds h).bind fun d h1 => onIns d h1 c fun _ fs => noFld (fs.lookup x) ((ma ds h1).bind fun l h2 => if l.length + 1 = n then m (d :: l) h2 else .stuck) := by
  show (mo ds h).bind _ = _
  refine congrArg _ (funext fun d => funext fun h1 => congrArg _ (funext fun n => funext fun fs => ?_))
  cases fs.lookup x <;> rfl
@[simp] theorem x_MethK (c nk n : Nat) (ix : List Nat) (x : Str) (m : List D → MH → Res D) (mo : ME) (mk : MA) : mMethK c nk n ix x m mo mk ds h = (mo ds h).bind fun d h1 => onIns d h1 c fun _ fs => noFld (fs.lookup x) ((mk ds h1).bind fun z h2 => if z.length = nk ∧ (permL ix z).length + 1 = n then m (d :: permL ix z) h2 else .stuck) := by
  show (mo ds h).bind _ = _
  refine congrArg _ (funext fun d => funext fun h1 => congrArg _ (funext fun n => funext fun fs => ?_))
  cases fs.lookup x <;> rfl
@[simp] theorem x_CallK (na nk n : Nat) (ix : List Nat) (m : List D → MH → Res D) (ma mk : MA) : mCallK na nk n ix m ma mk ds h = (ma ds h).bind fun l h1 => (mk ds h1).bind fun z h2 => if l.length = na ∧ z.length = nk ∧ (l ++ permL ix z).length = n then m (l ++ permL ix z) h2 else .stuck := (rfl)
theorem onIns_at {α : Type} {n c : Nat} {fs : List (Str × D)} (e : h[n]? = some (.ins c fs)) (k : Nat → List (Str × D) → Res α) : onIns (.ref n) h c k = k n fs := by
  simp only [onIns, e]
  exact if_pos (by trivial)
@[simp] theorem x_For {ι : Type} (mi : MI ι) (mg : MGx ι) (b : MS) : mFor mi mg b ds h = lift (mi ds h) ds fun l h1 => forL mg b l ds h1 := (rfl)
def itR {ι : Type} (o : Option (List ι)) (h : MH) : Res (List ι) := match o with | some l => .ok l h | none => .stuck
@[simp] theorem itR_some {ι : Type} (l : List ι) : itR (some l) h = .ok l h := (rfl)
@[simp] theorem x_Itm (its : D → Option (List D)) (m : ME) : mItm its m ds h = (m ds h).bind fun d h1 => itR (its d) h1 := by
  show (m ds h).bind _ = _
  refine congrArg _ (funext fun d => funext fun h1 => ?_)
  cases its d <;> rfl
@[simp] theorem x_Args {ι : Type} (f : List D → Option (List ι)) (ma : MA) : mArgs f ma ds h = (ma ds h).bind fun l h1 => itR (f l) h1 := by
  show (ma ds h).bind _ = _
  refine congrArg _ (funext fun l => funext fun h1 => ?_)
  cases f l <;> rfl
@[simp] theorem x_Yes : mYes ds h = .ok true h := (rfl)
@[simp] theorem x_Lc {ι : Type} (vs : List Nat) (mi : MI ι) (mg : MGx ι) (mt : MT) (me : ME) : mLc vs mi mg mt me ds h = (mi ds h).bind fun l h1 => if l.length ≤ sizeLine then (lcL (wipeD ds vs) mg mt me l h1).bind fun r h2 => .ok (.lst r) h2 else .stuck := (rfl)
@[simp] theorem x_Make (c n : Nat) (m : List D → MH → Res D) (ma : MA) : mMake c n m ma ds h = (ma ds h).bind fun l h1 => if l.length + 1 = n then (m (.ref h1.length :: l) (h1 ++ [.ins c []])).nx.bind fun d h2 => (match d with
  | .non => .ok (.ref h1.length) h2 | _ => .stuck) else .stuck := rfl
def ownR (o : Option Bool) (h : MH) : Res D := match o with | some b => .ok (.bl b) h | none => .stuck
@[simp] theorem ownR_some (b : Bool) : ownR (some b) h = .ok (.bl b) h := (rfl)
@[simp] theorem x_IsOwn (t : Nat → Option Bool) (m : ME) : mIsOwn t m ds h = (m ds h).bind fun d h1 => ownR (isOwn t d h1) h1 := (rfl)
@[simp] theorem x_Raise (c : Nat) (f : Str) (m : ME) : mRaise c f m ds h = lift (m ds h) ds fun d h1 => .exc ⟨c, [(f, d)]⟩ ds h1 := (rfl)
def SR.tried (r : SR) (i : Nat) (tc : List (Nat × Bool)) (su : Exn → MS) : SR := match r with
  | .exc x ds1 h1 => (match tc.lookup x.c with
    | some true => if i < ds1.length then mEndS i (su x (ds1.set i none) h1) else .stuck
    | some false => .exc x ds1 h1
    | none => .stuck)
  | r => r
@[simp] theorem x_Try (i : Nat) (tc : List (Nat × Bool)) (b : MS) (su : Exn → MS) : mTry i tc b su ds h = (b ds h).tried i tc su := by
  show (match b ds h with | .exc x ds1 h1 => _ | r => r) = _
  unfold SR.tried
  cases b ds h <;> rfl
@[simp] theorem tried_next (i : Nat) (tc : List (Nat × Bool)) (su : Exn → MS) : (SR.next ds h).tried i tc su = .next ds h := (rfl)
@[simp] theorem tried_ret (d : D) (i : Nat) (tc : List (Nat × Bool)) (su : Exn → MS) : (SR.ret d h).tried i tc su = .ret d h := (rfl)
theorem tried_exc (x : Exn) (i : Nat) {tc : List (Nat × Bool)} (su : Exn → MS) (e : tc.lookup x.c = some true) (hi : i < ds.length) : (SR.exc x ds h).tried i tc su = mEndS i (su x (ds.set i none) h) := by
  show (match tc.lookup x.c with | some true => _ | some false => _ | none => _) = _
  rw [e]
  exact if_pos hi
theorem tried_past (x : Exn) (i : Nat) {tc : List (Nat × Bool)} (su : Exn → MS) (e : tc.lookup x.c = some false) : (SR.exc x ds h).tried i tc su = .exc x ds h := by
  show (match tc.lookup x.c with | some true => _ | some false => _ | none => _) = _
  rw [e]
@[simp] theorem endS_ret (i : Nat) (d : D) : mEndS i (.ret d h) = .ret d h := (rfl)
@[simp] theorem endS_next (i : Nat) : mEndS i (.next ds h) = .next (ds.set i none) h := (rfl)
@[simp] theorem x_XF (f : Str) (fs : List (Str × D)) : mXF f fs ds h = onSome (fs.lookup f) fun d => .ok d h := (rfl)
@[simp] theorem x_Act (act : MH → Res D) : mAct act ds h = act h := (rfl)
@[simp] theorem x_CallA (m : (MH → Res D) → List D → MH → Res D) (mb : ME) (ma : MA) : mCallA m mb ma ds h = (ma ds h).bind fun l h1 => m (fun h2 => mb ds h2) l h1 := (rfl)
@[simp] theorem x_Neg (m : ME) : mNeg m ds h = (m ds h).bind fun d h1 => onSome (gNeg d) fun x => .ok x h1 := (rfl)
@[simp] theorem x_Neg1 (i : Int) : gNeg (.int i) = some (.int (-i)) := (rfl)
def maxR (o : Option (List Int)) (h : MH) : Res D := match o with | some (b :: bs) => .ok (.int (maxI (b :: bs))) h | _ => .stuck
@[simp] theorem maxR_cons (b : Int) (bs : List Int) : maxR (some (b :: bs)) h = .ok (.int (maxI (b :: bs))) h := (rfl)
@[simp] theorem x_MaxV (mo : ME) : mMaxV mo ds h = (mo ds h).bind fun d h1 => maxR ((dicOf d h1).bind fun q => intsOf q.2) h1 := (rfl)
@[simp] theorem x_Cx {ι α : Type} (vs : List Nat) (mi : MI ι) (mg : MGx ι) (mt : MT) (mb : MB α) (a0 : α) (fin : α → D) : mCx vs mi mg mt mb a0 fin ds h = (mi ds h).bind fun l h1 => (cxL (wipeD ds vs) mg mt mb l h1 a0).nx.bind fun a h2 => .ok (fin a) h2 := (rfl)
@[simp] theorem x_Fr {ι α : Type} (vs : List Nat) (mi : MI ι) (mg : MGx ι) (mt : MT) (mb : MB α) (a : α) : mFr vs mi mg mt mb ds h a = (mi ds h).nx.bind fun l h1 => cxL (wipeD ds vs) mg mt mb l h1 a := (rfl)
@[simp] theorem x_El (me : ME) (a : List D) : mEl me ds h a = (me ds h).nx.bind fun y h1 => if a.length < sizeLine then .ok (a ++ [y]) h1 else .stuck := (rfl)
def dkR (o : Option Key) (a : KD) (y : D) (h : MH) : Res KD := match o with
  | some key => if a.length < sizeLine then .ok (putP a key y) h else .stuck
  | none => .stuck
@[simp] theorem dkR_some (k : Key) (a : KD) (y : D) : dkR (some k) a y h = if a.length < sizeLine then .ok (putP a k y) h else .stuck := (rfl)
@[simp] theorem x_Dk (mk mv : ME) (a : KD) : mDk mk mv ds h a = (mk ds h).nx.bind fun k h1 => (mv ds h1).nx.bind fun y h2 => dkR (keyOf k) a y h2 := (rfl)
@[simp] theorem x_wipe0 : wipeD ds [] = ds := (rfl)
@[simp] theorem x_wipe (v : Nat) (vs : List Nat) : wipeD ds (v :: vs) = (wipeD ds vs).set v none := (rfl)
end
/-! ### values -/
section
variable {h : MH}
@[simp] theorem v_add_int (i j : Int) : gAdd (.int i) (.int j) h = some (.int (i + j), h) := (rfl)
@[simp] theorem v_add_str (x y : Str) : gAdd (.str x) (.str y) h = if x.length + y.length ≤ sizeLine then some (.str (x ++ y), h) else none := (rfl)
@[simp] theorem v_add_tup (x y : List D) : gAdd (.tup x) (.tup y) h = if x.length + y.length ≤ sizeLine then some (.tup (x ++ y), h) else none := (rfl)
@[simp] theorem v_add_lst (x y : List D) : gAdd (.lst x) (.lst y) h = if x.length + y.length ≤ sizeLine then some (.lst (x ++ y), h) else none := (rfl)
@[simp] theorem v_sub (i j : Int) : gSub (.int i) (.int j) h = some (.int (i - j), h) := (rfl)
@[simp] theorem v_mul (i j : Int) : gMul (.int i) (.int j) h = if small64 i || small64 j then some (.int (i * j), h) else none := (rfl)
@[simp] theorem v_mulL (l : List D) (k : Int) : gMul (.lst l) (.int k) h = if -(2 ^ 63) ≤ k ∧ k < 2 ^ 63 ∧ l.length * k.toNat ≤ sizeLine then some (.lst (List.replicate k.toNat l).flatten, h) else none := (rfl)
@[simp] theorem v_fdiv (i j : Int) : gFdiv (.int i) (.int j) h = if 0 < j ∧ j.natAbs.log2 < 9000 then some (.int (i / j), h) else none := (rfl)
@[simp] theorem v_mod (i j : Int) : gMod (.int i) (.int j) h = if 0 < j then some (.int (i % j), h) else none := (rfl)
@[simp] theorem v_pow (i j : Int) : gPow (.int i) (.int j) h = if 0 ≤ j ∧ j ≤ 1000000 ∧ i.natAbs < 2 ^ 64 then some (.int (i ^ j.toNat), h) else none := (rfl)
@[simp] theorem v_lt (i j : Int) : gLt (.int i) (.int j) h = some (.bl (decide (i < j)), h) := (rfl)
@[simp] theorem v_le (i j : Int) : gLe (.int i) (.int j) h = some (.bl (decide (i ≤ j)), h) := (rfl)
@[simp] theorem v_gt (i j : Int) : gGt (.int i) (.int j) h = some (.bl (decide (j < i)), h) := (rfl)
@[simp] theorem v_ge (i j : Int) : gGe (.int i) (.int j) h = some (.bl (decide (j ≤ i)), h) := (rfl)
@[simp] theorem v_is (a : D) : gIs a .non h = some (.bl (isNon a), h) := (rfl)
@[simp] theorem v_isNot (a : D) : gIsNot a .non h = some (.bl (!isNon a), h) := (rfl)
@[simp] theorem v_isNon : isNon .non = true := (rfl)
@[simp] theorem v_isNon1 (i : Int) : isNon (.int i) = false := (rfl)
@[simp] theorem v_isNon2 (i : Str) : isNon (.str i) = false := (rfl)
@[simp] theorem v_isNon3 (i : Bool) : isNon (.bl i) = false := (rfl)
@[simp] theorem v_isNon4 (l : List D) : isNon (.tup l) = false := (rfl)
@[simp] theorem v_isNon5 (l : List D) : isNon (.lst l) = false := (rfl)
@[simp] theorem v_isNon6 (l : Nat) : isNon (.ref l) = false := (rfl)
@[simp] theorem v_onBl {α : Type} (b : Bool) (k : Bool → Res α) : onBl (.bl b) k = k b := (rfl)
@[simp] theorem v_tru_bl (b : Bool) : tru (.bl b) h = some b := (rfl)
@[simp] theorem v_tru_non : tru .non h = some false := (rfl)
@[simp] theorem v_tru_int (i : Int) : tru (.int i) h = some (i != 0) := (rfl)
@[simp] theorem v_tru_tup (l : List D) : tru (.tup l) h = some (!l.isEmpty) := (rfl)
@[simp] theorem v_tru_lst (l : List D) : tru (.lst l) h = some (!l.isEmpty) := (rfl)
theorem v_tru_str (x : Str) : tru (.str x) h = if x.length ≤ sizeLine then some ((x.length : Int) != 0) else none := rfl
@[simp] theorem v_len_str (z : Str) : cLen [.str z] h = if z.length ≤ sizeLine then some (.int z.length, h) else none := (rfl)
@[simp] theorem v_len_tup (l : List D) : cLen [.tup l] h = some (.int l.length, h) := (rfl)
@[simp] theorem v_len_lst (l : List D) : cLen [.lst l] h = some (.int l.length, h) := (rfl)
@[simp] theorem v_len_scr (l : List D) : cLen [.scr l] h = some (.int l.length, h) := (rfl)
@[simp] theorem v_len_dic (ks : List Key) (l : List D) : cLen [.dic ks l] h = some (.int ks.length, h) := (rfl)
theorem v_len_ref {n : Nat} {l : List D} (e : h[n]? = some (.lst l)) : cLen [.ref n] h = some (.int l.length, h) := by
  simp [cLen, dicOf, seqOf, lstOf, e]
@[simp] theorem v_ix_str (z : Str) (i : Int) : gIx (.str z) (.int i) h = if z.length ≤ sizeLine then (atI z.cps.toList i).map fun c => (.str ⟨#[c]⟩, h) else none := (rfl)
@[simp] theorem v_ix_tup (l : List D) (i : Int) : gIx (.tup l) (.int i) h = (atI l i).map fun d => (d, h) := (rfl)
@[simp] theorem v_ix_lst (l : List D) (i : Int) : gIx (.lst l) (.int i) h = (atI l i).map fun d => (d, h) := (rfl)
@[simp] theorem v_ix_scr (l : List D) (i : Int) : gIx (.scr l) (.int i) h = (atI l i).map fun d => (d, h) := (rfl)
@[simp] theorem v_ix_dic (ks : List Key) (l : List D) (x : Str) : gIx (.dic ks l) (.str x) h = (lookK ks l (.inr x)).map fun d => (d, h) := (rfl)
theorem v_ix_ref {n : Nat} {l : List D} (e : h[n]? = some (.lst l)) (i : Int) : gIx (.ref n) (.int i) h = (atI l i).map fun d => (d, h) := by
  simp [gIx, gIxO, dicOf, seqOf, lstOf, e]
@[simp] theorem v_sl_str (z : Str) (lo hi : Option Int) : gSl (.str z) lo hi h = if z.length ≤ sizeLine then some (.str (cutS z lo hi), h) else none := (rfl)
@[simp] theorem v_sl_tup (l : List D) (lo hi : Option Int) : gSl (.tup l) lo hi h = some (.tup (cutL l lo hi), h) := (rfl)
@[simp] theorem v_sl_lst (l : List D) (lo hi : Option Int) : gSl (.lst l) lo hi h = some (.lst (cutL l lo hi), h) := (rfl)
@[simp] theorem v_sl_scr (l : List D) (lo hi : Option Int) : gSl (.scr l) lo hi h = some (.lst (cutL l lo hi), h) := (rfl)
@[simp] theorem v_itsA_tup (l : List D) : itsA (.tup l) = some l := (rfl)
@[simp] theorem v_itsA_lst (l : List D) : itsA (.lst l) = some l := (rfl)
@[simp] theorem v_itsA_scr (l : List D) : itsA (.scr l) = some l := (rfl)
@[simp] theorem v_itsA_str (x : Str) : itsA (.str x) = some (x.cps.toList.map fun c => .str ⟨#[c]⟩) := (rfl)
@[simp] theorem v_rng1 (j : Int) : rng1 [.int j] = if -(2 ^ 62) ≤ j ∧ j < 2 ^ 62 then some ((List.range j.toNat).map fun (i : Nat) => .int (i : Int)) else none := (rfl)
@[simp] theorem v_fAppend_res {n : Nat} {xs : List D} (d : D) (e : h[n]? = some (.lst xs)) (z : xs.length < sizeLine) : fAppend (.ref n) [d] h = some (.non, h.set n (.lst (xs ++ [d]))) := by
  simp [fAppend, e, z]
theorem v_frz {n : Nat} {l : List D} (e : h[n]? = some (.lst l)) : frz1 (.ref n) h = some (.lst l, h.set n .gone) := by
  simp [frz1, e]
end
/-! ### comprehensions, loops -/
section
variable {ι : Type}
/-- one item of a comprehension -/
def lc1 (ds0 : Sl) (mg : MGx ι) (mt : MT) (me : ME) (d : ι) (h : MH) : Res (Option D) := match mg d ds0 h with
  | none => .stuck
  | some (ds1, h1) => (mt ds1 h1).nx.bind fun b h2 => if b then (me ds1 h2).nx.bind fun y h3 => .ok (some y) h3 else .ok none h2
theorem lcL_cons (ds0 : Sl) (mg : MGx ι) (mt : MT) (me : ME) (d : ι) (l : List ι) (h : MH) : lcL ds0 mg mt me (d :: l) h = (lc1 ds0 mg mt me d h).bind fun o h1 => (lcL ds0 mg mt me l h1).bind fun r h2 => .ok (o.toList ++ r) h2 := by
  simp only [lcL, lc1]
  cases mg d ds0 h with
  | none => rfl
  | some q =>
    obtain ⟨ds1, h1⟩ := q
    dsimp only
    cases mt ds1 h1 with
    | stuck => rfl
    | exc x h2 => rfl
    | ok b h2 =>
      cases b with
      | false =>
        simp
        cases lcL ds0 mg mt me l h2 <;> rfl
      | true =>
        simp
        cases me ds1 h2 with
        | stuck => rfl
        | exc x h3 => rfl
        | ok y h3 => rfl
theorem lc1_of {ds0 : Sl} {mg : MGx ι} {mt : MT} {me : ME} {d : ι} {h : MH} {ds1 : Sl} {h1 : MH} (e : mg d ds0 h = some (ds1, h1)) : lc1 ds0 mg mt me d h = (mt ds1 h1).nx.bind fun b h2 => if b then (me ds1 h2).nx.bind fun y h3 => .ok (some y) h3 else .ok none h2 := by
  unfold lc1
  rw [e]
/-- nothing changes, nothing is raised -/
theorem lcL_fm {α : Type} {ds0 : Sl} {mg : MGx ι} {mt : MT} {me : ME} {h : MH} (enc : α → ι) (f : α → Option D) : ∀ (xs : List α), (∀ x ∈ xs, lc1 ds0 mg mt me (enc x) h = .ok (f x) h) → lcL ds0 mg mt me (xs.map enc) h = .ok (xs.filterMap f) h
  | [], _ => rfl
  | x :: xs, H => by
    rw [List.map_cons, lcL_cons, H x (by simp), Res.bind_ok, lcL_fm enc f xs fun y hy => H y (by simp [hy]), Res.bind_ok, List.filterMap_cons]
    cases f x <;> rfl
theorem lcL_map {α : Type} {ds0 : Sl} {mg : MGx ι} {mt : MT} {me : ME} {h : MH} (enc : α → ι) (f : α → D) (xs : List α) (H : ∀ x ∈ xs, lc1 ds0 mg mt me (enc x) h = .ok (some (f x)) h) : lcL ds0 mg mt me (xs.map enc) h = .ok (xs.map f) h := by
  rw [lcL_fm enc (fun x => some (f x)) xs H]
  congr 1
  induction xs with
  | nil => rfl
  | cons x xs ih => simp
theorem lcL_flt {α : Type} {ds0 : Sl} {mg : MGx ι} {mt : MT} {me : ME} {h : MH} (enc : α → ι) (p : α → Bool) (f : α → D) (xs : List α) (H : ∀ x ∈ xs, lc1 ds0 mg mt me (enc x) h = .ok (if p x then some (f x) else none) h) : lcL ds0 mg mt me (xs.map enc) h = .ok ((xs.filter p).map f) h := by
  rw [lcL_fm enc (fun x => if p x then some (f x) else none) xs H]
  congr 1
  clear H
  induction xs with
  | nil => rfl
  | cons x xs ih =>
    rw [List.filterMap_cons, List.filter_cons]
    cases p x <;> simp [ih]
/-- item by item -/
inductive Al2 {α β : Type} (R : α → β → Prop) : List α → List β → Prop where
  | nil : Al2 R [] []
  | cons {a b l m} : R a b → Al2 R l m → Al2 R (a :: l) (b :: m)
/-- each item gives one, the store goes its way -/
theorem lcL_ex {ds0 : Sl} {mg : MGx ι} {mt : MT} {me : ME} (P : MH → Prop) (R : ι → D → Prop) : ∀ (xs : List ι) (h : MH), (∀ x ∈ xs, ∀ h, P h → ∃ y h', lc1 ds0 mg mt me x h = .ok (some y) h' ∧ P h' ∧ R x y) → P h →
    ∃ ys h', lcL ds0 mg mt me xs h = .ok ys h' ∧ P h' ∧ Al2 R xs ys
  | [], h, _, p => ⟨[], h, rfl, p, .nil⟩
  | x :: xs, h, H, p => by
    obtain ⟨y, h1, e1, p1, r1⟩ := H x (by simp) h p
    obtain ⟨ys, h2, e2, p2, r2⟩ := lcL_ex P R xs h1 (fun z hz => H z (by simp [hz])) p1
    exact ⟨y :: ys, h2, by rw [lcL_cons, e1, Res.bind_ok, e2]; rfl, p2, .cons r1 r2⟩
/-- one turn of a loop -/
def SR.turn (r : SR) (k : MS) : SR := match r with
  | .next ds2 h2 => k ds2 h2
  | .cont ds2 h2 => k ds2 h2
  | .brk ds2 h2 => .next ds2 h2
  | r => r
@[simp] theorem turn_next (ds : Sl) (h : MH) (k : MS) : (SR.next ds h).turn k = k ds h := (rfl)
@[simp] theorem turn_cont (ds : Sl) (h : MH) (k : MS) : (SR.cont ds h).turn k = k ds h := (rfl)
@[simp] theorem turn_brk (ds : Sl) (h : MH) (k : MS) : (SR.brk ds h).turn k = .next ds h := (rfl)
@[simp] theorem turn_ret (d : D) (h : MH) (k : MS) : (SR.ret d h).turn k = .ret d h := (rfl)
@[simp] theorem turn_exc (x : Exn) (ds : Sl) (h : MH) (k : MS) : (SR.exc x ds h).turn k = .exc x ds h := (rfl)
@[simp] theorem forL_nil (mg : MGx ι) (b : MS) (ds : Sl) (h : MH) : forL mg b [] ds h = .next ds h := (rfl)
theorem forL_cons {mg : MGx ι} {b : MS} {d : ι} {l : List ι} {ds ds1 : Sl} {h h1 : MH} (e : mg d ds h = some (ds1, h1)) : forL mg b (d :: l) ds h = (b ds1 h1).turn (forL mg b l) := by
  simp only [forL, e]
  cases b ds1 h1 <;> rfl
theorem forL_inv {mg : MGx ι} {b : MS} (I : List ι → Sl → MH → Prop) (step : ∀ d l ds h, I (d :: l) ds h → ∃ ds1 h1, mg d ds h = some (ds1, h1) ∧ ∃ ds2 h2, (b ds1 h1 = .next ds2 h2 ∨ b ds1 h1 = .cont ds2 h2) ∧ I l ds2 h2) :
    ∀ (l : List ι) (ds : Sl) (h : MH), I l ds h → ∃ ds' h', forL mg b l ds h = .next ds' h' ∧ I [] ds' h'
  | [], ds, h, i => ⟨ds, h, rfl, i⟩
  | d :: l, ds, h, i => by
    obtain ⟨ds1, h1, e1, ds2, h2, e2, i2⟩ := step d l ds h i
    obtain ⟨ds', h', e3, i3⟩ := forL_inv I step l ds2 h2 i2
    refine ⟨ds', h', ?_, i3⟩
    rw [forL_cons e1]
    rcases e2 with e2 | e2 <;> rw [e2] <;> exact e3
/-- comprehensions of dicts: one item -/
theorem cxL_cons {α : Type} (ds0 : Sl) (mg : MGx ι) (mt : MT) (mb : MB α) (d : ι) (l : List ι) {ds1 : Sl} {h1 : MH} (h : MH) (a : α) (e : mg d ds0 h = some (ds1, h1)) :
    cxL ds0 mg mt mb (d :: l) h a = (mt ds1 h1).nx.bind fun b h2 => if b then (mb ds1 h2 a).nx.bind fun a1 h3 => cxL ds0 mg mt mb l h3 a1 else cxL ds0 mg mt mb l h2 a := by
  simp only [cxL, e]
theorem cxL_fold {α β : Type} {ds0 : Sl} {mg : MGx ι} {mt : MT} {mb : MB α} {h : MH} (enc : β → ι) (f : α → β → α) : ∀ (xs : List β) (a : α), (∀ x ∈ xs, ∃ ds1, mg (enc x) ds0 h = some (ds1, h) ∧ mt ds1 h = .ok true h ∧ ∀ a, mb ds1 h a = .ok (f a x) h) →
    cxL ds0 mg mt mb (xs.map enc) h a = .ok (xs.foldl f a) h
  | [], a, _ => rfl
  | x :: xs, a, H => by
    obtain ⟨ds1, e1, e2, e3⟩ := H x (by simp)
    rw [List.map_cons, cxL_cons _ _ _ _ _ _ _ _ e1, e2, Res.nx_ok, Res.bind_ok, if_pos rfl, e3, Res.nx_ok, Res.bind_ok, cxL_fold enc f xs _ fun y hy => H y (by simp [hy])]
    rfl
end
end ML
set_option Elab.async false
set_option linter.all false
set_option maxRecDepth 100000
set_option maxHeartbeats 2000000
set_option autoImplicit false
/-! C: what the shared defs come to. -/
namespace ML
open PySem PySem.Spec PyProof.Rows L2

/-! ### more values -/
section
variable {h : MH}
theorem isi_of {d : D} {U : String} {b : Bool} (T : String) (hU : U ∈ TyNames ∧ U ≠ "NoneType") (e : tyD d h = some T) (eb : isiT T U = b) : cIsi [d, .ty U] h = some (.bl b, h) := by
  simp only [cIsi, e, if_pos hU, eb]
theorem u_int : ("int" : String) ∈ TyNames ∧ ("int" : String) ≠ "NoneType" := by decide
theorem u_bool : ("bool" : String) ∈ TyNames ∧ ("bool" : String) ≠ "NoneType" := by decide
theorem u_str : ("str" : String) ∈ TyNames ∧ ("str" : String) ≠ "NoneType" := by decide
theorem u_tuple : ("tuple" : String) ∈ TyNames ∧ ("tuple" : String) ≠ "NoneType" := by decide
theorem u_list : ("list" : String) ∈ TyNames ∧ ("list" : String) ≠ "NoneType" := by decide
@[simp] theorem v_isi_int_int (i : Int) : cIsi [.int i, .ty "int"] h = some (.bl true, h) := isi_of "int" u_int rfl (by decide)
@[simp] theorem v_isi_int_bool (i : Int) : cIsi [.int i, .ty "bool"] h = some (.bl false, h) := isi_of "int" u_bool rfl (by decide)
@[simp] theorem v_isi_int_str (i : Int) : cIsi [.int i, .ty "str"] h = some (.bl false, h) := isi_of "int" u_str rfl (by decide)
@[simp] theorem v_isi_int_tup (i : Int) : cIsi [.int i, .ty "tuple"] h = some (.bl false, h) := isi_of "int" u_tuple rfl (by decide)
@[simp] theorem v_isi_int_lst (i : Int) : cIsi [.int i, .ty "list"] h = some (.bl false, h) := isi_of "int" u_list rfl (by decide)
@[simp] theorem v_isi_bl_int (i : Bool) : cIsi [.bl i, .ty "int"] h = some (.bl true, h) := isi_of "bool" u_int rfl (by decide)
@[simp] theorem v_isi_bl_bool (i : Bool) : cIsi [.bl i, .ty "bool"] h = some (.bl true, h) := isi_of "bool" u_bool rfl (by decide)
@[simp] theorem v_isi_bl_str (i : Bool) : cIsi [.bl i, .ty "str"] h = some (.bl false, h) := isi_of "bool" u_str rfl (by decide)
@[simp] theorem v_isi_bl_tup (i : Bool) : cIsi [.bl i, .ty "tuple"] h = some (.bl false, h) := isi_of "bool" u_tuple rfl (by decide)
@[simp] theorem v_isi_bl_lst (i : Bool) : cIsi [.bl i, .ty "list"] h = some (.bl false, h) := isi_of "bool" u_list rfl (by decide)
@[simp] theorem v_isi_str_int (i : Str) : cIsi [.str i, .ty "int"] h = some (.bl false, h) := isi_of "str" u_int rfl (by decide)
@[simp] theorem v_isi_str_bool (i : Str) : cIsi [.str i, .ty "bool"] h = some (.bl false, h) := isi_of "str" u_bool rfl (by decide)
@[simp] theorem v_isi_str_str (i : Str) : cIsi [.str i, .ty "str"] h = some (.bl true, h) := isi_of "str" u_str rfl (by decide)
@[simp] theorem v_isi_str_tup (i : Str) : cIsi [.str i, .ty "tuple"] h = some (.bl false, h) := isi_of "str" u_tuple rfl (by decide)
@[simp] theorem v_isi_str_lst (i : Str) : cIsi [.str i, .ty "list"] h = some (.bl false, h) := isi_of "str" u_list rfl (by decide)
@[simp] theorem v_isi_tup_int (i : List D) : cIsi [.tup i, .ty "int"] h = some (.bl false, h) := isi_of "tuple" u_int rfl (by decide)
@[simp] theorem v_isi_tup_bool (i : List D) : cIsi [.tup i, .ty "bool"] h = some (.bl false, h) := isi_of "tuple" u_bool rfl (by decide)
@[simp] theorem v_isi_tup_str (i : List D) : cIsi [.tup i, .ty "str"] h = some (.bl false, h) := isi_of "tuple" u_str rfl (by decide)
@[simp] theorem v_isi_tup_tup (i : List D) : cIsi [.tup i, .ty "tuple"] h = some (.bl true, h) := isi_of "tuple" u_tuple rfl (by decide)
@[simp] theorem v_isi_tup_lst (i : List D) : cIsi [.tup i, .ty "list"] h = some (.bl false, h) := isi_of "tuple" u_list rfl (by decide)
@[simp] theorem v_isi_lst_int (i : List D) : cIsi [.lst i, .ty "int"] h = some (.bl false, h) := isi_of "list" u_int rfl (by decide)
@[simp] theorem v_isi_lst_bool (i : List D) : cIsi [.lst i, .ty "bool"] h = some (.bl false, h) := isi_of "list" u_bool rfl (by decide)
@[simp] theorem v_isi_lst_str (i : List D) : cIsi [.lst i, .ty "str"] h = some (.bl false, h) := isi_of "list" u_str rfl (by decide)
@[simp] theorem v_isi_lst_tup (i : List D) : cIsi [.lst i, .ty "tuple"] h = some (.bl false, h) := isi_of "list" u_tuple rfl (by decide)
@[simp] theorem v_isi_lst_lst (i : List D) : cIsi [.lst i, .ty "list"] h = some (.bl true, h) := isi_of "list" u_list rfl (by decide)
@[simp] theorem v_isi_non_int : cIsi [.non, .ty "int"] h = some (.bl false, h) := isi_of "NoneType" u_int rfl (by decide)
@[simp] theorem v_isi_non_bool : cIsi [.non, .ty "bool"] h = some (.bl false, h) := isi_of "NoneType" u_bool rfl (by decide)
@[simp] theorem v_isi_non_str : cIsi [.non, .ty "str"] h = some (.bl false, h) := isi_of "NoneType" u_str rfl (by decide)
@[simp] theorem v_isi_non_tup : cIsi [.non, .ty "tuple"] h = some (.bl false, h) := isi_of "NoneType" u_tuple rfl (by decide)
@[simp] theorem v_isi_non_lst : cIsi [.non, .ty "list"] h = some (.bl false, h) := isi_of "NoneType" u_list rfl (by decide)
@[simp] theorem v_tuple_tup (l : List D) : cTuple [.tup l] h = some (.tup l, h) := (rfl)
@[simp] theorem v_tuple_lst (l : List D) : cTuple [.lst l] h = some (.tup l, h) := (rfl)
theorem v_tuple_ref {n : Nat} {l : List D} (e : h[n]? = some (.lst l)) : cTuple [.ref n] h = some (.tup l, h) := by simp [cTuple, lstOf, e]
@[simp] theorem v_list_tup (l : List D) : cList [.tup l] h = some (.lst l, h) := (rfl)
@[simp] theorem v_list_lst (l : List D) : cList [.lst l] h = some (.lst l, h) := (rfl)
@[simp] theorem v_list_dic (ks : List Key) (l : List D) : cList [.dic ks l] h = some (.lst (ks.map dK), h) := (rfl)
@[simp] theorem v_listN_tup (l : List D) : cListN [.tup l] h = some (.ref h.length, h ++ [.lst l]) := (rfl)
@[simp] theorem v_listN_lst (l : List D) : cListN [.lst l] h = some (.ref h.length, h ++ [.lst l]) := (rfl)
@[simp] theorem v_int_int (i : Int) : cInt [.int i] h = some (.int i, h) := (rfl)
@[simp] theorem v_abs (i : Int) : cAbs [.int i] h = some (.int (if i < 0 then -i else i), h) := (rfl)
@[simp] theorem v_str (i : Int) : cStr [.int i] h = if i.natAbs.log2 < 1920 then some (.str (istr i), h) else none := (rfl)
@[simp] theorem v_divmod (i j : Int) : cDivmod [.int i, .int j] h = if 0 < j ∧ i.natAbs < 2 ^ 1000 then some (.tup [.int (i / j), .int (i % j)], h) else none := (rfl)
theorem bls_map {α : Type} (f : α → Bool) : ∀ xs : List α, blsOf (xs.map fun x => .bl (f x)) = some (xs.map f)
  | [] => rfl
  | x :: xs => by simp [blsOf, bls_map f xs]
theorem ints_map {α : Type} (f : α → Int) : ∀ xs : List α, intsOf (xs.map fun x => .int (f x)) = some (xs.map f)
  | [] => rfl
  | x :: xs => by simp [intsOf, ints_map f xs]
theorem strs_map {α : Type} (f : α → Str) : ∀ xs : List α, strsOf (xs.map fun x => .str (f x)) = some (xs.map f)
  | [] => rfl
  | x :: xs => by simp [strsOf, strs_map f xs]
theorem ints_str {α : Type} (f : α → Str) {xs : List α} (h : xs ≠ []) : intsOf (xs.map fun x => .str (f x)) = none := by
  cases xs with
  | nil => exact absurd rfl h
  | cons x xs => rfl
@[simp] theorem v_all {α : Type} (f : α → Bool) (xs : List α) : cAll [.lst (xs.map fun x => .bl (f x))] h = some (.bl (xs.all f), h) := by
  simp only [cAll, lstOf, Option.bind_some, bls_map]
  rw [List.all_map]; rfl
@[simp] theorem v_any {α : Type} (f : α → Bool) (xs : List α) : cAny [.lst (xs.map fun x => .bl (f x))] h = some (.bl (xs.any f), h) := by
  simp only [cAny, lstOf, Option.bind_some, bls_map]
  rw [List.any_map]; rfl
@[simp] theorem v_sumX {α : Type} (f : α → Int) (xs : List α) : cSumX [.lst (xs.map fun x => .int (f x))] h = some (.int (xs.map f).sum, h) := by
  simp only [cSumX, orC, cSum, lstOf, Option.bind_some, ints_map]
theorem v_max {α : Type} (f : α → Int) {xs : List α} (hx : xs ≠ []) : cMax [.lst (xs.map fun x => .int (f x))] h = some (.int (maxI (xs.map f)), h) := by
  cases xs with
  | nil => exact absurd rfl hx
  | cons x xs =>
    have := ints_map f (x :: xs)
    simp only [cMax, lstOf, Option.bind_some, this]
    rfl
theorem v_min {α : Type} (f : α → Int) {xs : List α} (hx : xs ≠ []) : cMin [.lst (xs.map fun x => .int (f x))] h = some (.int (minI (xs.map f)), h) := by
  cases xs with
  | nil => exact absurd rfl hx
  | cons x xs =>
    have := ints_map f (x :: xs)
    simp only [cMin, lstOf, Option.bind_some, this]
    rfl
theorem join_of {α : Type} (a : Str) (f : α → Str) (xs : List α) (z : (xs.map fun x => (f x).length).sum + xs.length * a.length ≤ 16777216) : fJoin (.str a) [.lst (xs.map fun x => .str (f x))] h = some (.str (Txt.join a (xs.map f)), h) := by
  simp only [fJoin, lstOf, Option.bind_some, strs_map]
  rw [if_pos (by simpa [List.map_map, Function.comp_def] using z)]
@[simp] theorem v_isTy_str (x : Str) : isTy "str" (.str x) h = true := (rfl)
@[simp] theorem v_isTy_lst (l : List D) : isTy "list" (.lst l) h = true := (rfl)
theorem v_isTy_ref {n : Nat} {l : List D} (e : h[n]? = some (.lst l)) : isTy "list" (.ref n) h = true := by simp [isTy, lstOf, e]
theorem v_pop {n : Nat} {xs : List D} {i : Int} {d : D} (e : h[n]? = some (.lst xs)) (h0 : 0 ≤ i) (h1 : i < 2 ^ 63) (hd : xs[i.toNat]? = some d) : fPopAt (.ref n) [.int i] h = some (d, h.set n (.lst (xs.eraseIdx i.toNat))) := by
  simp only [fPopAt, e]
  rw [if_pos ⟨h0, h1⟩, hd]
theorem atI_nat {α : Type} {xs : List α} {i : Int} {x : α} (h0 : 0 ≤ i) (h1 : xs[i.toNat]? = some x) : atI xs i = some x := by
  have hl := (List.getElem?_eq_some_iff.mp h1).1
  unfold atI ixN
  rw [if_pos h0, if_pos (by omega)]
  exact h1
end

/-! ### equality -/
@[simp] theorem view_int (i : Int) (h : MH) : viewL (.int i) h = .int i := (rfl)
@[simp] theorem view_str (i : Str) (h : MH) : viewL (.str i) h = .str i := (rfl)
@[simp] theorem view_bl (i : Bool) (h : MH) : viewL (.bl i) h = .bl i := (rfl)
@[simp] theorem view_non (h : MH) : viewL .non h = .non := (rfl)
@[simp] theorem view_tup (l : List D) (h : MH) : viewL (.tup l) h = .tup l := (rfl)
@[simp] theorem view_lst (l : List D) (h : MH) : viewL (.lst l) h = .lst l := (rfl)
theorem view_ref {h : MH} {n : Nat} {l : List D} (e : h[n]? = some (.lst l)) : viewL (.ref n) h = .lst l := by simp [viewL, e]
theorem eqX_of {a b : D} {h : MH} (ha : eqOk (viewL a h) = true) (hb : eqOk (viewL b h) = true) : gEqX a b h = some (.bl (eqD (viewL a h) (viewL b h)), h) := by
  unfold gEqX orO gEq
  rw [ha, hb]; rfl
theorem neX_of {a b : D} {h : MH} (ha : eqOk (viewL a h) = true) (hb : eqOk (viewL b h) = true) : gNeX a b h = some (.bl (!eqD (viewL a h) (viewL b h)), h) := by
  unfold gNeX orO gNe
  rw [ha, hb]; rfl
@[simp] theorem ok_int (i : Int) : eqOk (.int i) = true := (rfl)
@[simp] theorem ok_bl (i : Bool) : eqOk (.bl i) = true := (rfl)
@[simp] theorem ok_non : eqOk .non = true := (rfl)
theorem ok_str (x : Str) : eqOk (.str x) = PySem.PyData.strOk x := by
  simp [eqOk, plain, SeqAt.shaped, py, PyData.canLay0, PyData.depth]
@[simp] theorem eqD_int (i j : Int) : eqD (.int i) (.int j) = decide (i = j) := by
  simp only [eqD, py, PyData.eqv]; by_cases h : i = j <;> simp [h]
@[simp] theorem eqD_str (i j : Str) : eqD (.str i) (.str j) = decide (i = j) := by
  simp only [eqD, py, PyData.eqv]; by_cases h : i = j <;> simp [h]
@[simp] theorem eqD_bl (i j : Bool) : eqD (.bl i) (.bl j) = (i == j) := by simp [eqD, py, PyData.eqv]
@[simp] theorem eqX_int (i j : Int) (h : MH) : gEqX (.int i) (.int j) h = some (.bl (decide (i = j)), h) := by rw [eqX_of rfl rfl]; simp
@[simp] theorem neX_int (i j : Int) (h : MH) : gNeX (.int i) (.int j) h = some (.bl (!decide (i = j)), h) := by rw [neX_of rfl rfl]; simp
@[simp] theorem eqX_bl (i j : Bool) (h : MH) : gEqX (.bl i) (.bl j) h = some (.bl (i == j), h) := by rw [eqX_of rfl rfl]; simp
theorem eqX_str {i j : Str} {h : MH} (hi : PySem.PyData.strOk i = true) (hj : PySem.PyData.strOk j = true) : gEqX (.str i) (.str j) h = some (.bl (decide (i = j)), h) := by
  rw [eqX_of (by simpa [ok_str] using hi) (by simpa [ok_str] using hj)]; simp
theorem neX_str {i j : Str} {h : MH} (hi : PySem.PyData.strOk i = true) (hj : PySem.PyData.strOk j = true) : gNeX (.str i) (.str j) h = some (.bl (!decide (i = j)), h) := by
  rw [neX_of (by simpa [ok_str] using hi) (by simpa [ok_str] using hj)]; simp
/-- data that is compared: at most n deep -/
def good : Nat → D → Bool
  | _, .non => true
  | _, .bl _ => true
  | _, .int _ => true
  | _, .str x => PySem.PyData.strOk x && decide (x.length ≤ sizeLine)
  | n + 1, .tup l => decide (l.length ≤ sizeLine) && l.all (good n)
  | n + 1, .lst l => decide (l.length ≤ sizeLine) && l.all (good n)
  | _, _ => false
theorem good_mono : ∀ {n m : Nat} {d : D}, n ≤ m → good n d = true → good m d = true
  | n, m, .non, _, _ | n, m, .bl _, _, _ | n, m, .int _, _, _ => by cases m <;> rfl
  | n, m, .str x, _, h => by cases n <;> cases m <;> simpa [good] using h
  | 0, _, .tup _, _, h | 0, _, .lst _, _, h => by simp [good] at h
  | n + 1, 0, _, hl, _ => by omega
  | n + 1, m + 1, .tup l, hl, h => by
    simp only [good, Bool.and_eq_true, List.all_eq_true] at h ⊢
    exact ⟨h.1, fun x hx => good_mono (by omega) (h.2 x hx)⟩
  | n + 1, m + 1, .lst l, hl, h => by
    simp only [good, Bool.and_eq_true, List.all_eq_true] at h ⊢
    exact ⟨h.1, fun x hx => good_mono (by omega) (h.2 x hx)⟩
  | n, _, .ty _, _, h | n, _, .scr _, _, h | n, _, .dic _ _, _, h | n, _, .ref _, _, h => by cases n <;> simp [good] at h
theorem plainAll_iff : ∀ {l : List D}, plainAll l = true ↔ ∀ d ∈ l, plain d = true
  | [] => by simp [plainAll]
  | d :: l => by simp [plainAll, plainAll_iff (l := l)]
theorem canAll_iff : ∀ {l : List D}, PyData.canLayAll0 (pyAll l) = true ↔ ∀ d ∈ l, PyData.canLay0 (py d) = true
  | [] => by simp [pyAll, PyData.canLayAll0]
  | d :: l => by simp [pyAll, PyData.canLayAll0, canAll_iff (l := l)]
theorem depthAll_le {n : Nat} : ∀ {l : List D}, (∀ d ∈ l, PyData.depth (py d) ≤ n) → PyData.depthAll (pyAll l) ≤ n
  | [], _ => by simp [pyAll, PyData.depthAll]
  | d :: l, h => by
    have h1 := h d (by simp)
    have h2 := depthAll_le (l := l) fun x hx => h x (by simp [hx])
    simp only [pyAll, PyData.depthAll]
    omega
theorem good_parts : ∀ {n : Nat} {d : D}, good n d = true → plain d = true ∧ PyData.canLay0 (py d) = true ∧ PyData.depth (py d) ≤ n
  | n, .non, _ | n, .bl _, _ | n, .int _, _ => by simp [plain, py, PyData.canLay0, PyData.depth]
  | n, .str x, h => by
    have : PySem.PyData.strOk x = true := by cases n <;> simp [good] at h <;> exact h.1
    simp [plain, py, PyData.canLay0, PyData.depth, this]
  | 0, .tup _, h | 0, .lst _, h => by simp [good] at h
  | n + 1, .tup l, h => by
    simp only [good, Bool.and_eq_true, List.all_eq_true] at h
    have ih := fun x hx => good_parts (h.2 x hx)
    simp only [plain, py, PyData.canLay0, PyData.depth]
    exact ⟨plainAll_iff.mpr fun x hx => (ih x hx).1, canAll_iff.mpr fun x hx => (ih x hx).2.1, Nat.succ_le_succ (depthAll_le fun x hx => (ih x hx).2.2)⟩
  | n + 1, .lst l, h => by
    simp only [good, Bool.and_eq_true, List.all_eq_true] at h
    have ih := fun x hx => good_parts (h.2 x hx)
    simp only [plain, py, PyData.canLay0, PyData.depth]
    exact ⟨plainAll_iff.mpr fun x hx => (ih x hx).1, canAll_iff.mpr fun x hx => (ih x hx).2.1, Nat.succ_le_succ (depthAll_le fun x hx => (ih x hx).2.2)⟩
  | n, .ty _, h | n, .scr _, h | n, .dic _ _, h | n, .ref _, h => by cases n <;> simp [good] at h
theorem eqOk_good {n : Nat} {d : D} (h : good n d = true) (hn : n ≤ 64) : eqOk d = true := by
  obtain ⟨h1, h2, h3⟩ := good_parts h
  simp [eqOk, SeqAt.shaped, h1, h2]
  omega
theorem eqAll_iff : ∀ {l m : List D}, PyData.eqvAll (pyAll l) (pyAll m) = true ↔ l.length = m.length ∧ ∀ (i : Nat) a b, l[i]? = some a → m[i]? = some b → eqD a b = true
  | [], [] => by simp [pyAll, PyData.eqvAll]
  | [], b :: m => by simp [pyAll, PyData.eqvAll]
  | a :: l, [] => by simp [pyAll, PyData.eqvAll]
  | a :: l, b :: m => by
    simp only [pyAll, PyData.eqvAll, Bool.and_eq_true, eqAll_iff (l := l) (m := m), List.length_cons, Nat.add_right_cancel_iff]
    constructor
    · rintro ⟨h1, h2, h3⟩
      refine ⟨h2, fun i x y hx hy => ?_⟩
      cases i with
      | zero => simp at hx hy; subst hx; subst hy; exact h1
      | succ i => exact h3 i x y (by simpa using hx) (by simpa using hy)
    · rintro ⟨h1, h2⟩
      exact ⟨h2 0 a b rfl rfl, h1, fun i x y hx hy => h2 (i + 1) x y (by simpa using hx) (by simpa using hy)⟩
/-- no truth values within -/
def noBl : Nat → D → Bool
  | _, .bl _ => false
  | n + 1, .tup l => l.all (noBl n)
  | n + 1, .lst l => l.all (noBl n)
  | _, _ => true
theorem eqD_refl : ∀ {n : Nat} {d : D}, good n d = true → eqD d d = true
  | n, .non, _ => rfl
  | n, .bl _, _ | n, .int _, _ | n, .str _, _ => by simp
  | 0, .tup _, h | 0, .lst _, h => by simp [good] at h
  | n + 1, .tup l, h => by
    simp only [good, Bool.and_eq_true, List.all_eq_true] at h
    simp only [eqD, py, PyData.eqv]
    refine eqAll_iff.mpr ⟨rfl, fun i a b ha hb => ?_⟩
    rw [ha] at hb; cases hb
    exact eqD_refl (h.2 a (List.mem_of_getElem? ha))
  | n + 1, .lst l, h => by
    simp only [good, Bool.and_eq_true, List.all_eq_true] at h
    simp only [eqD, py, PyData.eqv]
    refine eqAll_iff.mpr ⟨rfl, fun i a b ha hb => ?_⟩
    rw [ha] at hb; cases hb
    exact eqD_refl (h.2 a (List.mem_of_getElem? ha))
  | n, .ty _, h | n, .scr _, h | n, .dic _ _, h | n, .ref _, h => by cases n <;> simp [good] at h
theorem eqD_eq : ∀ {n : Nat} {a b : D}, good n a = true → good n b = true → noBl n a = true → noBl n b = true → eqD a b = true → a = b := by
  intro n
  induction n with
  | zero =>
    intro a b ha hb na nb e
    cases a <;> cases b <;> simp_all [good, noBl, eqD, py, PyData.eqv]
  | succ n ih =>
    intro a b ha hb na nb e
    have key : ∀ {l m : List D}, (∀ x ∈ l, good n x = true) → (∀ x ∈ m, good n x = true) → (∀ x ∈ l, noBl n x = true) → (∀ x ∈ m, noBl n x = true) → PyData.eqvAll (pyAll l) (pyAll m) = true → l = m := by
      intro l m g1 g2 n1 n2 e
      obtain ⟨e1, e2⟩ := eqAll_iff.mp e
      apply List.ext_getElem? 
      intro i
      by_cases hi : i < l.length
      · have h1 : l[i]? = some l[i] := by simp [hi]
        have h2 : m[i]? = some (m[i]'(by omega)) := by simp [show i < m.length by omega]
        rw [h1, h2]
        congr 1
        exact ih (g1 _ (List.mem_of_getElem? h1)) (g2 _ (List.mem_of_getElem? h2)) (n1 _ (List.mem_of_getElem? h1)) (n2 _ (List.mem_of_getElem? h2)) (e2 i _ _ h1 h2)
      · rw [List.getElem?_eq_none (by omega), List.getElem?_eq_none (by omega)]
    cases a <;> cases b <;> simp only [good, noBl, eqD, py, PyData.eqv, Bool.and_eq_true, List.all_eq_true, Bool.false_eq_true] at ha hb na nb e <;> first
      | rfl
      | (simp at e; subst e; rfl)
      | (exact congrArg D.tup (key ha.2 hb.2 na nb e))
      | (exact congrArg D.lst (key ha.2 hb.2 na nb e))
      | contradiction
/-- equality of data, told by a test -/
theorem eqD_dec {n : Nat} {a b : D} {p : Prop} [Decidable p] (ha : good n a = true) (hb : good n b = true) (na : noBl n a = true) (nb : noBl n b = true) (hp : a = b ↔ p) : eqD a b = decide p := by
  by_cases h : p
  · have := hp.mpr h
    subst this
    simp [eqD_refl ha, h]
  · have : ¬ eqD a b = true := fun e => h (hp.mp (eqD_eq ha hb na nb e))
    simp [h, this]
theorem eqX_dec {n : Nat} {a b : D} {h : MH} {p : Prop} [Decidable p] (ha : good n a = true) (hb : good n b = true) (na : noBl n a = true) (nb : noBl n b = true) (hn : n ≤ 64) (hp : a = b ↔ p) (va : viewL a h = a := by rfl) (vb : viewL b h = b := by rfl) : gEqX a b h = some (.bl (decide p), h) := by
  rw [eqX_of (by rw [va]; exact eqOk_good ha hn) (by rw [vb]; exact eqOk_good hb hn), va, vb, eqD_dec ha hb na nb hp]
theorem neX_dec {n : Nat} {a b : D} {h : MH} {p : Prop} [Decidable p] (ha : good n a = true) (hb : good n b = true) (na : noBl n a = true) (nb : noBl n b = true) (hn : n ≤ 64) (hp : a = b ↔ p) (va : viewL a h = a := by rfl) (vb : viewL b h = b := by rfl) : gNeX a b h = some (.bl (!decide p), h) := by
  rw [neX_of (by rw [va]; exact eqOk_good ha hn) (by rw [vb]; exact eqOk_good hb hn), va, vb, eqD_dec ha hb na nb hp]
end ML
set_option Elab.async false
set_option linter.all false
set_option maxRecDepth 100000
set_option maxHeartbeats 2000000
set_option autoImplicit false
namespace ML
open PySem PySem.Spec PyProof.Rows L2

/-! ### what is cut off behind a def -/
mutual
theorem D.low_mono {j k : Nat} (hjk : j ≤ k) : ∀ (d : D), d.low j = true → d.low k = true
  | .non, _ | .bl _, _ | .int _, _ | .str _, _ | .ty _, _ => rfl
  | .ref n, h => by simp only [D.low, decide_eq_true_eq] at h ⊢; omega
  | .tup l, h => by simp only [D.low] at h ⊢; exact lowAll_mono hjk l h
  | .lst l, h => by simp only [D.low] at h ⊢; exact lowAll_mono hjk l h
  | .scr l, h => by simp only [D.low] at h ⊢; exact lowAll_mono hjk l h
  | .dic ks l, h => by simp only [D.low] at h ⊢; exact lowAll_mono hjk l h
theorem lowAll_mono {j k : Nat} (hjk : j ≤ k) : ∀ (l : List D), lowAll j l = true → lowAll k l = true
  | [], _ => rfl
  | d :: l, h => by
    simp only [lowAll, Bool.and_eq_true] at h ⊢
    exact ⟨D.low_mono hjk d h.1, lowAll_mono hjk l h.2⟩
end
theorem lowAll_iff {k : Nat} : ∀ {l : List D}, lowAll k l = true ↔ ∀ d ∈ l, d.low k = true
  | [] => by simp [lowAll]
  | d :: l => by simp [lowAll, lowAll_iff (l := l)]
theorem Ob.low_mono {j k : Nat} (hjk : j ≤ k) (o : Ob) (h : o.low j = true) : o.low k = true := by
  cases o with
  | lst l => exact lowAll_mono hjk _ h
  | dic ks l => exact lowAll_mono hjk _ h
  | ins c fs => exact lowAll_mono hjk _ h
  | gone => rfl
theorem good_low : ∀ {n : Nat} {d : D}, good n d = true → d.low 0 = true
  | n, .non, _ | n, .bl _, _ | n, .int _, _ | n, .str _, _ => rfl
  | 0, .tup _, h | 0, .lst _, h => by simp [good] at h
  | n + 1, .tup l, h => by
    simp only [good, Bool.and_eq_true, List.all_eq_true] at h
    simp only [D.low]
    exact lowAll_iff.mpr fun d hd => good_low (h.2 d hd)
  | n + 1, .lst l, h => by
    simp only [good, Bool.and_eq_true, List.all_eq_true] at h
    simp only [D.low]
    exact lowAll_iff.mpr fun d hd => good_low (h.2 d hd)
  | n, .ty _, h | n, .scr _, h | n, .dic _ _, h | n, .ref _, h => by cases n <;> simp [good] at h
/-- nothing of the store names anything of the store -/
def flat (h : MH) : Bool := h.all (Ob.low 0)
theorem flat_append {h h' : MH} : flat (h ++ h') = (flat h && flat h') := by simp [flat]
theorem flat_take {h : MH} (f : flat h = true) (n : Nat) : flat (h.take n) = true := by
  simp only [flat, List.all_eq_true] at f ⊢
  exact fun o ho => f o (List.mem_of_mem_take ho)
theorem flat_set {h : MH} {n : Nat} {o : Ob} (f : flat h = true) (ho : o.low 0 = true) : flat (h.set n o) = true := by
  simp only [flat, List.all_eq_true] at f ⊢
  intro x hx
  rcases List.mem_or_eq_of_mem_set hx with h1 | h1
  · exact f x h1
  · rw [h1]; exact ho
theorem trim_ok {n N : Nat} {body : MS} {l : List D} {h h' : MH} {d : D} (e : mFn n N body l h = .ok d h') (hd : d.low 0 = true) (h1 : h.length ≤ h'.length) (h2 : flat (h'.take h.length) = true) : mFnT n N body l h = .ok d (h'.take h.length) := by
  unfold mFnT
  rw [e]
  have : gcAt h.length (fun k => d.low k && (h'.take k).all (Ob.low k)) h'.length = some h.length := by
    refine gcAt_self ?_ h1
    simp only [Bool.and_eq_true, List.all_eq_true]
    simp only [flat, List.all_eq_true] at h2
    exact ⟨D.low_mono (Nat.zero_le _) d hd, fun o ho => Ob.low_mono (Nat.zero_le _) o (h2 o ho)⟩
  simp only [this]
/-- .. a result that names things -/
theorem trim_ref {n N : Nat} {body : MS} {l : List D} {h h' : MH} {d : D} {k : Nat} (e : mFn n N body l h = .ok d h') : ∃ h'', mFnT n N body l h = .ok d h'' ∧ (h'' = h' ∨ ∃ k, h.length ≤ k ∧ d.low k = true ∧ h'' = h'.take k) := by
  unfold mFnT
  rw [e]
  dsimp only
  split
  · rename_i k hk
    obtain ⟨h1, h2⟩ := gcAt_some hk
    simp only [Bool.and_eq_true] at h2
    exact ⟨_, rfl, .inr ⟨k, h1, h2.1, rfl⟩⟩
  · exact ⟨_, rfl, .inl rfl⟩
/-! ### values.py -/
section
variable {h : MH}
@[simp] theorem e_is_whole_int (i : Int) : C.f_is_whole [.int i] h = .ok (.bl true) h := by simp [C.f_is_whole]
@[simp] theorem e_is_between (i a b : Int) : C.f_is_between [.int i, .int a, .int b] h = .ok (.bl (decide (a ≤ i) && decide (i ≤ b))) h := by
  simp [C.f_is_between]
  by_cases h1 : a ≤ i <;> simp [h1]
@[simp] theorem e_is_tuple_of (l : List D) (n : Int) : C.f_is_tuple_of [.tup l, .int n] h = .ok (.bl (decide ((l.length : Int) = n))) h := by
  simp [C.f_is_tuple_of]
theorem sub_one {c : Nat} {y : Str} : gIn (.str ⟨#[c]⟩) (.str y) h = some (.bl (decide (c ∈ y.cps.toList)), h) := rfl
/-- the signs of x are some of those of y -/
def textOf (x y : Str) : Bool := x.cps.toList.all fun c => decide (c ∈ y.cps.toList)
theorem e_is_text_of {x y : Str} (hx : x.length ≤ sizeLine) : C.f_is_text_of [.str x, .str y] h = .ok (.bl (textOf x y)) h := by
  have e : lcL [some (.str x), some (.str y), none] (tgName 2) mYes (mBin gIn (mVar 2) (mVar 1)) (x.cps.toList.map fun c => .str ⟨#[c]⟩) h = .ok (x.cps.toList.map fun c => .bl (decide (c ∈ y.cps.toList))) h := by
    refine lcL_map _ _ _ fun c _ => ?_
    rw [lc1_of rfl]
    simp [sub_one]
  have hl : x.cps.toList.length ≤ sizeLine := by simpa [Str.length] using hx
  simp [C.f_is_text_of]
  rw [if_pos (by simpa using hl), e]
  simp [textOf]
def nameOk (x : Str) : Bool := textOf x "abcdefghijklmnopqrstuvwxyz" && (decide (1 ≤ x.length) && decide (x.length ≤ 8))
theorem e_is_name {x : Str} (hx : x.length ≤ sizeLine) : C.f_is_name [.str x] h = .ok (.bl (nameOk x)) h := by
  simp [C.f_is_name, e_is_text_of hx]
  unfold nameOk
  cases textOf x "abcdefghijklmnopqrstuvwxyz" <;> simp [hx]
  by_cases h1 : 1 ≤ x.length
  · have : (1 : Int) ≤ x.length := by omega
    simp [h1, this]
    by_cases h2 : x.length ≤ 8
    · have : (x.length : Int) ≤ 8 := by omega
      simp [h2, this]
    · have : ¬ (x.length : Int) ≤ 8 := by omega
      simp [h2, this]
  · have : ¬ (1 : Int) ≤ x.length := by omega
    simp [h1, this]
end
/-! ### draws -/
/-- a mill: the stock and two numbers -/
def Ml (o : Ob) : Prop := ∃ a l r : Int, o = .lst [.int a, .int l, .int r] ∧ 0 ≤ a ∧ a < 10 ^ 45 ∧ 0 ≤ l ∧ 0 ≤ r
theorem Ml.low {o : Ob} (h : Ml o) : o.low 0 = true := by
  obtain ⟨a, l, r, rfl, _⟩ := h
  rfl
theorem x_tgSub {mo mi : ME} {v : D} {ds : Sl} {h : MH} {n j : Nat} {k : Int} {l : List D} (e1 : mo ds h = .ok (.ref n) h) (e2 : mi ds h = .ok (.int k) h) (e3 : h[n]? = some (.lst l)) (e4 : ixN l.length k = some j) : tgSub mo mi v ds h = some (ds, h.set n (.lst (l.set j v))) := by
  unfold tgSub
  rw [e1]
  dsimp only
  rw [e2]
  dsimp only
  rw [e3]
  dsimp only
  rw [e4]
theorem e_grind {h : MH} {m : Nat} {o : Ob} {k : Int} (hm : h[m]? = some o) (ho : Ml o) (hk : 0 < k) : ∃ v o', C.f__law_grind [.ref m, .int k] h = .ok (.int v) (h.set m o') ∧ 0 ≤ v ∧ v < k ∧ Ml o' := by
  obtain ⟨a, l, r, rfl, ha, ha2, hl, hr⟩ := ho
  have hlt : m < h.length := (List.getElem?_eq_some_iff.mp hm).1
  have i0 : atI [D.int a, D.int l, D.int r] 0 = some (.int a) := rfl
  by_cases h0 : 0 < a
  · refine ⟨a % k, .lst [.int (a / k), .int l, .int r], ?_, Int.emod_nonneg _ (by omega), Int.emod_lt_of_pos _ hk, ⟨a / k, l, r, rfl, Int.ediv_nonneg ha (by omega), ?_, hl, hr⟩⟩
    · have hz : a.natAbs < 2 ^ 1000 := by
        have h2 : (a.natAbs : Int) = a := Int.natAbs_of_nonneg ha
        have : (a.natAbs : Int) < ((2 ^ 1000 : Nat) : Int) := by rw [h2]; exact Int.lt_trans ha2 (by decide)
        exact Int.ofNat_lt.mp this
      have es : ∀ (v : D) (ds : Sl), ds[0]? = some (some (.ref m)) → tgSub (mVar 0) (mC (.int 0)) v ds h = some (ds, h.set m (.lst [v, .int l, .int r])) := fun v ds e => x_tgSub (j := 0) (by simp [e]) rfl hm rfl
      simp [C.f__law_grind, v_ix_ref hm, i0, h0, hk, hz, es]
    · exact Int.lt_of_le_of_lt (Int.ediv_le_self k ha) ha2
  · have i1 : atI [D.int a, D.int l, D.int r] 1 = some (.int l) := rfl
    have m1 : (h.set m (.lst [.int a, .int ((l * 69069 + 12345) % 4294967291), .int r]))[m]? = some (.lst [.int a, .int ((l * 69069 + 12345) % 4294967291), .int r]) := by rw [List.getElem?_set_self hlt]
    have m2 : (h.set m (.lst [.int a, .int ((l * 69069 + 12345) % 4294967291), .int ((r * 48271 + 11) % 2147483647)]))[m]? = some (.lst [.int a, .int ((l * 69069 + 12345) % 4294967291), .int ((r * 48271 + 11) % 2147483647)]) := by rw [List.getElem?_set_self hlt]
    have s1 : ∀ (v : D) (ds : Sl), ds[0]? = some (some (.ref m)) → tgSub (mVar 0) (mC (.int 1)) v ds h = some (ds, h.set m (.lst [.int a, v, .int r])) := fun v ds e => x_tgSub (j := 1) (by simp [e]) rfl hm rfl
    have s2 : ∀ (v : D) (ds : Sl), ds[0]? = some (some (.ref m)) → tgSub (mVar 0) (mC (.int 2)) v ds (h.set m (.lst [.int a, .int ((l * 69069 + 12345) % 4294967291), .int r])) = some (ds, h.set m (.lst [.int a, .int ((l * 69069 + 12345) % 4294967291), v])) := fun v ds e => by
      rw [x_tgSub (j := 2) (by simp [e]) rfl m1 rfl]
      simp
    have j2 : atI [D.int a, D.int ((l * 69069 + 12345) % 4294967291), D.int r] 2 = some (.int r) := rfl
    have k1 : atI [D.int a, D.int ((l * 69069 + 12345) % 4294967291), D.int ((r * 48271 + 11) % 2147483647)] 1 = some (.int ((l * 69069 + 12345) % 4294967291)) := rfl
    have k2 : atI [D.int a, D.int ((l * 69069 + 12345) % 4294967291), D.int ((r * 48271 + 11) % 2147483647)] 2 = some (.int ((r * 48271 + 11) % 2147483647)) := rfl
    have z1 : small64 (69069 : Int) = true := by decide
    have z2 : small64 (48271 : Int) = true := by decide
    have g1 : Nat.log2 977 < 9000 := by decide
    have g2 : Nat.log2 13 < 9000 := by decide
    refine ⟨((l * 69069 + 12345) % 4294967291 / 977 + (r * 48271 + 11) % 2147483647 / 13) % k, .lst [.int a, .int ((l * 69069 + 12345) % 4294967291), .int ((r * 48271 + 11) % 2147483647)], ?_, Int.emod_nonneg _ (by omega), Int.emod_lt_of_pos _ hk, ⟨a, _, _, rfl, ha, ha2, Int.emod_nonneg _ (by decide), Int.emod_nonneg _ (by decide)⟩⟩
    simp [C.f__law_grind, v_ix_ref hm, v_ix_ref m1, v_ix_ref m2, i0, i1, j2, k1, k2, h0, hk, s1, s2, z1, z2, g1, g2]

theorem e_among {h : MH} {m : Nat} {o : Ob} {xs : List D} {t : D} (ht : t = .lst xs ∨ t = .tup xs) (hm : h[m]? = some o) (ho : Ml o) (hx : xs ≠ []) : ∃ x o', x ∈ xs ∧ C.f__law_among [.ref m, t] h = .ok x (h.set m o') ∧ Ml o' := by
  have hl : (0 : Int) < xs.length := by
    have := List.length_pos_iff.mpr hx
    omega
  obtain ⟨v, o', e, h0, h1, ho'⟩ := e_grind hm ho hl
  have hv : v.toNat < xs.length := by omega
  refine ⟨xs[v.toNat], o', List.getElem_mem hv, ?_, ho'⟩
  have hi : atI xs v = some xs[v.toNat] := atI_nat h0 (by simp [hv])
  rcases ht with rfl | rfl <;> simp [C.f__law_among, e, hi]
theorem eraseIdx_perm {α : Type} : ∀ (l : List α) (i : Nat) (h : i < l.length), (l[i] :: l.eraseIdx i).Perm l
  | [], i, h => by simp at h
  | a :: l, 0, h => by simp
  | a :: l, i + 1, h => by
    simp only [List.getElem_cons_succ, List.eraseIdx_cons_succ]
    exact (List.Perm.swap _ _ _).trans ((eraseIdx_perm l i (by simpa using h)).cons a)
/-- a store with a mill and two things behind -/
def st2 (h : MH) (m : Nat) (o x y : Ob) : MH := h.set m o ++ [x, y]
section
variable {h : MH} {m : Nat} {o x y : Ob}
theorem st2_m (hm : m < h.length) : (st2 h m o x y)[m]? = some o := by
  unfold st2
  rw [List.getElem?_append_left (by simpa using hm), List.getElem?_set_self hm]
theorem st2_p : (st2 h m o x y)[h.length]? = some x := by
  unfold st2
  rw [List.getElem?_append_right (by simp)]
  simp
theorem st2_q : (st2 h m o x y)[h.length + 1]? = some y := by
  unfold st2
  rw [List.getElem?_append_right (by simp)]
  simp
theorem st2_setm (hm : m < h.length) (o2 : Ob) : (st2 h m o x y).set m o2 = st2 h m o2 x y := by
  unfold st2
  rw [List.set_append_left _ _ (by simpa using hm), List.set_set]
theorem st2_setp (x2 : Ob) : (st2 h m o x y).set h.length x2 = st2 h m o x2 y := by
  unfold st2
  rw [List.set_append_right _ _ (by simp)]
  simp
theorem st2_setq (y2 : Ob) : (st2 h m o x y).set (h.length + 1) y2 = st2 h m o x y2 := by
  unfold st2
  rw [List.set_append_right _ _ (by simp)]
  simp
end
theorem rng_nat {n : Nat} (h : (n : Int) < 2 ^ 62) : rng1 [.int (n : Int)] = some ((List.range n).map fun (i : Nat) => .int (i : Int)) := by
  rw [v_rng1, if_pos ⟨Int.le_trans (by decide) (Int.natCast_nonneg n), h⟩, Int.toNat_natCast]
theorem e_shuffled {h : MH} {m : Nat} {o : Ob} {xs : List D} {t : D} (ht : t = .lst xs ∨ t = .tup xs) (hm : h[m]? = some o) (ho : Ml o) (hf : flat h = true) (hx : lowAll 0 xs = true) (hl : xs.length < 1000) :
    ∃ ys o', ys.Perm xs ∧ C.f__law_shuffled [.ref m, t] h = .ok (.lst ys) (h.set m o') ∧ Ml o' := by
  have hlt : m < h.length := (List.getElem?_eq_some_iff.mp hm).1
  have hz : (1000 : Nat) ≤ sizeLine := Nat.le_of_ble_eq_true rfl
  have hself : h.set m o = h := by
    apply List.ext_getElem?
    intro i
    by_cases e : m = i
    · subst e; rw [List.getElem?_set_self hlt, hm]
    · rw [List.getElem?_set_ne e]
  obtain ⟨ds', h', e, o', left, found, t', ho', eh, pm, hlen, eds⟩ := forL_inv (mg := tgName 2) (b := mExpr (mBM "list" fAppend (mVar 4) (mCons (mBM "list" fPopAt (mVar 3) (mCons (mCall 2 C.f__law_grind (mCons (mVar 0) (mCons (mCB cLen (mCons (mVar 3) mNil)) mNil))) mNil)) mNil)))
    (fun l ds s => ∃ o' left found t', Ml o' ∧ s = st2 h m o' (.lst left) (.lst found) ∧ (left ++ found).Perm xs ∧ left.length = l.length ∧ ds = [some (.ref m), some t, t', some (.ref h.length), some (.ref (h.length + 1))]) (fun d l ds s ⟨o', left, found, t', ho', eh, pm, hlen, eds⟩ => by
      subst eh eds
      refine ⟨_, _, rfl, ?_⟩
      have hpos : (0 : Int) < left.length := by simp at hlen; omega
      obtain ⟨v, o2, eg, v0, v1, ho2⟩ := e_grind (st2_m (x := .lst left) (y := .lst found) (o := o') hlt) ho' hpos
      rw [st2_setm hlt] at eg
      have hv : v.toNat < left.length := by omega
      have hsum : left.length + found.length = xs.length := by simpa using pm.length_eq
      have hpop := v_pop (h := st2 h m o2 (.lst left) (.lst found)) (i := v) (d := left[v.toNat]) st2_p v0 (by omega) (by simp [hv])
      rw [st2_setp] at hpop
      have happ := v_fAppend_res (h := st2 h m o2 (.lst (left.eraseIdx v.toNat)) (.lst found)) left[v.toNat] st2_q (by omega)
      rw [st2_setq] at happ
      refine ⟨_, _, .inl ?_, o2, left.eraseIdx v.toNat, found ++ [left[v.toNat]], some d, ho2, rfl, ?_, ?_, rfl⟩
      · simp [v_isTy_ref (st2_q (h := h) (m := m) (o := o') (x := .lst left) (y := .lst found)), v_isTy_ref (st2_p (h := h) (m := m) (o := o') (x := .lst left) (y := .lst found)), v_len_ref (st2_p (h := h) (m := m) (o := o') (x := .lst left) (y := .lst found)), eg, hpop, happ]
      · refine List.Perm.trans ?_ pm
        have h1 : (left.eraseIdx v.toNat ++ (found ++ [left[v.toNat]])).Perm (left[v.toNat] :: (left.eraseIdx v.toNat ++ found)) := by
          rw [← List.append_assoc]
          exact (List.perm_append_singleton _ _)
        refine h1.trans ?_
        have h2 : (left[v.toNat] :: left.eraseIdx v.toNat).Perm left := eraseIdx_perm _ _ hv
        exact (h2.append_right found)
      · rw [List.length_eraseIdx_of_lt hv]
        simp at hlen
        omega) ((List.range xs.length).map fun (i : Nat) => .int (i : Int)) [some (.ref m), some t, none, some (.ref h.length), some (.ref (h.length + 1))] (st2 h m o (.lst xs) (.lst [])) ⟨o, xs, [], none, ho, rfl, by simp, by simp, rfl⟩
  have hleft : left = [] := by simpa using hlen
  subst hleft eh eds
  have efn : mFn 2 5 (mSeq (mPar 3 4 (mCB cListN (mCons (mVar 1) mNil)) (mLstN mNil)) (mSeq (mFor (mArgs rng1 (mCons (mCB cLen (mCons (mVar 3) mNil)) mNil)) (tgName 2) (mExpr (mBM "list" fAppend (mVar 4) (mCons (mBM "list" fPopAt (mVar 3) (mCons (mCall 2 C.f__law_grind (mCons (mVar 0) (mCons (mCB cLen (mCons (mVar 3) mNil)) mNil))) mNil)) mNil)))) (mRet (mFrz (mVar 4))))) [.ref m, t] h
      = .ok (.lst found) (st2 h m o' (.lst []) .gone) := by
    have h2 : h ++ [Ob.lst xs] ++ [Ob.lst []] = st2 h m o (.lst xs) (.lst []) := by
      unfold st2; rw [hself]; simp
    have fz := v_frz (st2_q (h := h) (m := m) (o := o') (x := .lst []) (y := .lst found))
    rw [st2_setq] at fz
    have elen := v_len_ref (st2_p (h := h) (m := m) (o := o) (x := .lst xs) (y := .lst []))
    have hb := rng_nat (n := xs.length) (Int.lt_trans (Int.ofNat_lt.mpr hl) (by decide))
    have h2' : h ++ [Ob.lst xs, Ob.lst []] = st2 h m o (.lst xs) (.lst []) := by
      rw [← h2]; simp
    rcases ht with rfl | rfl <;> simp [h2, h2', elen, hb, e, fz]
  have hfl : found.Perm xs := by simpa using pm
  have hlow : (D.lst found).low 0 = true := by
    simp only [D.low]
    exact lowAll_iff.mpr fun d hd => lowAll_iff.mp hx d (hfl.mem_iff.mp hd)
  have htake : (st2 h m o' (.lst []) .gone).take h.length = h.set m o' := by
    unfold st2
    rw [List.take_append_of_le_length (by simp), List.take_of_length_le (by simp)]
  refine ⟨found, o', hfl, ?_, ho'⟩
  have := trim_ok efn hlow (show h.length ≤ (h.set m o' ++ [Ob.lst [], Ob.gone]).length by simp) (by rw [htake]; exact flat_set hf ho'.low)
  rw [htake] at this
  unfold C.f__law_shuffled
  exact this
end ML
set_option Elab.async false
set_option linter.all false
set_option maxRecDepth 100000
set_option maxHeartbeats 2000000
set_option autoImplicit false
namespace ML
open PySem PySem.Spec PyProof.Rows L2
theorem zip_tup {l : List D} : zipA [.tup l, .tup l] = some (l.map fun x => [x, x]) := by
  have : List.zipWith (fun p q => [p, q]) l l = l.map fun x => [x, x] := by
    induction l with
    | nil => rfl
    | cons a l ih => simp [ih]
  show some (List.zipWith (fun p q => [p, q]) l l) = _
  rw [this]
theorem zip_lst {l : List D} : zipA [.lst l, .lst l] = some (l.map fun x => [x, x]) := by
  have : List.zipWith (fun p q => [p, q]) l l = l.map fun x => [x, x] := by
    induction l with
    | nil => rfl
    | cons a l ih => simp [ih]
  show some (List.zipWith (fun p q => [p, q]) l l) = _
  rw [this]
theorem e_is_that {h : MH} : ∀ {n : Nat} {d : D}, good n d = true → C.f__law_is_that (n + 1) [d, d] h = .ok (.bl true) h
  | n, .non, _ => by simp [C.f__law_is_that]
  | n, .bl b, _ => by simp [C.f__law_is_that]
  | n, .int i, _ => by simp [C.f__law_is_that]
  | n, .str x, hx => by
    have hs : PySem.PyData.strOk x = true := by cases n <;> simp [good] at hx <;> exact hx.1
    simp [C.f__law_is_that, eqX_str hs hs]
  | 0, .tup l, hl | 0, .lst l, hl => by simp [good] at hl
  | n + 1, .tup l, hl => by
    simp only [good, Bool.and_eq_true, List.all_eq_true, decide_eq_true_eq] at hl
    have e : lcL [some (.tup l), some (.tup l), some (.bl true), none, none] (tgPair 2 (tgCons (tgName 3) (tgCons (tgName 4) tgNil))) mYes (mCall 2 (C.f__law_is_that (n + 1)) (mCons (mVar 3) (mCons (mVar 4) mNil))) (l.map fun x => [x, x]) h = .ok (l.map fun _ => .bl true) h := by
      refine lcL_map _ _ _ fun x hx => ?_
      rw [lc1_of rfl]
      simp [e_is_that (h := h) (hl.2 x hx)]
    have ha := v_all (h := h) (fun _ : D => true) l
    rw [C.f__law_is_that]
    simp [zip_tup, hl.1, e, ha]
  | n + 1, .lst l, hl => by
    simp only [good, Bool.and_eq_true, List.all_eq_true, decide_eq_true_eq] at hl
    have e : lcL [some (.lst l), some (.lst l), some (.bl true), none, none] (tgPair 2 (tgCons (tgName 3) (tgCons (tgName 4) tgNil))) mYes (mCall 2 (C.f__law_is_that (n + 1)) (mCons (mVar 3) (mCons (mVar 4) mNil))) (l.map fun x => [x, x]) h = .ok (l.map fun _ => .bl true) h := by
      refine lcL_map _ _ _ fun x hx => ?_
      rw [lc1_of rfl]
      simp [e_is_that (h := h) (hl.2 x hx)]
    have ha := v_all (h := h) (fun _ : D => true) l
    rw [C.f__law_is_that]
    simp [zip_lst, hl.1, e, ha]
  | n, .ty _, hl | n, .scr _, hl | n, .dic _ _, hl | n, .ref _, hl => by cases n <;> simp [good] at hl
end ML
set_option Elab.async false
set_option linter.all false
set_option maxRecDepth 100000
set_option maxHeartbeats 2000000
set_option autoImplicit false
namespace ML
open PySem PySem.Spec PyProof.Rows L2
theorem enumL_map {α : Type} (f : α → D) : ∀ (xs : List α) (i : Nat), enumL i (xs.map f) = (xs.zipIdx i).map fun q => [.int (q.2 : Int), f q.1]
  | [], _ => rfl
  | x :: xs, i => by
    show [D.int (i : Int), f x] :: enumL (i + 1) (xs.map f) = _
    rw [enumL_map f xs (i + 1)]
    rfl
theorem forL_invM {β ι : Type} {mg : MGx ι} {b : MS} (enc : β → ι) (I : List β → Sl → MH → Prop) (step : ∀ x l ds h, I (x :: l) ds h → ∃ ds1 h1, mg (enc x) ds h = some (ds1, h1) ∧ ∃ ds2 h2, (b ds1 h1 = .next ds2 h2 ∨ b ds1 h1 = .cont ds2 h2) ∧ I l ds2 h2) :
    ∀ (l : List β) (ds : Sl) (h : MH), I l ds h → ∃ ds' h', forL mg b (l.map enc) ds h = .next ds' h' ∧ I [] ds' h'
  | [], ds, h, i => ⟨ds, h, rfl, i⟩
  | d :: l, ds, h, i => by
    obtain ⟨ds1, h1, e1, ds2, h2, e2, i2⟩ := step d l ds h i
    obtain ⟨ds', h', e3, i3⟩ := forL_invM enc I step l ds2 h2 i2
    refine ⟨ds', h', ?_, i3⟩
    rw [List.map_cons, forL_cons e1]
    rcases e2 with e2 | e2 <;> rw [e2] <;> exact e3
theorem e_mill {h : MH} {ns : List Int} {lap : Nat} (hl : ns.length ≤ 63) (hp : lap ≤ 1) : ∃ o, C.f__law_mill [.scr (ns.map .int), .int lap] h = .ok (.ref h.length) (h ++ [o]) ∧ Ml o := by
  have z1 : small64 (77 : Int) = true := by decide
  have z2 : small64 (1913 : Int) = true := by decide
  have z3 : small64 (69069 : Int) = true := by decide
  have z4 : small64 (16807 : Int) = true := by decide
  have z5 : small64 (3 : Int) = true := by decide
  have z6 : (3 : Nat) ≤ sizeLine := Nat.le_of_ble_eq_true rfl
  obtain ⟨cut, hcut⟩ : ∃ cut : List Int, cutL (ns.map D.int) none (some 11) = cut.map D.int := by
    refine ⟨ns.take (HT.sIx ns.length ns.length (some 11)), ?_⟩
    unfold cutL
    rw [HT.sIx_none, List.drop_zero, Nat.sub_zero, List.length_map, List.map_take]
  have ea : enumA [.lst (cut.map D.int)] = some ((cut.zipIdx 0).map fun q => [.int (q.2 : Int), .int q.1]) := by
    show some (enumL 0 (cut.map D.int)) = _
    rw [enumL_map]
  obtain ⟨ds', h', e, hh, l, r, t5, t6, hl0, hr0, eds⟩ := forL_invM (mg := tgPair 2 (tgCons (tgName 5) (tgCons (tgName 6) tgNil))) (b := mSeq (mSet 3 (mBin gMod (mCB cInt (mCons (mBin gAdd (mBin gAdd (mBin gMul (mVar 3) (mC (.int 69069))) (mBin gMod (mCB cInt (mCons (mVar 6) mNil)) (mC (.int 1073741789)))) (mBin gMul (mC (.int 3)) (mVar 5))) mNil)) (mC (.int 4294967291)))) (mSet 4 (mBin gMod (mCB cInt (mCons (mBin gAdd (mBin gAdd (mBin gMul (mVar 4) (mC (.int 16807))) (mBin gMod (mCB cInt (mCons (mVar 6) mNil)) (mC (.int 998244353)))) (mVar 1)) mNil)) (mC (.int 2147483647)))))
    (fun q : Int × Nat => [.int (q.2 : Int), .int q.1]) (fun L ds s => s = h ∧ ∃ l r t5 t6, 0 ≤ l ∧ 0 ≤ r ∧ ds = [some (.scr (ns.map .int)), some (.int lap), none, some (.int l), some (.int r), t5, t6])
    (fun q L ds s ⟨hs, l, r, t5, t6, hl0, hr0, eds⟩ => by
      subst hs eds
      refine ⟨_, _, rfl, _, _, .inl ?_, rfl, (l * 69069 + q.1 % 1073741789 + 3 * (q.2 : Int)) % 4294967291, (r * 16807 + q.1 % 998244353 + lap) % 2147483647, some (.int q.2), some (.int q.1), Int.emod_nonneg _ (by decide), Int.emod_nonneg _ (by decide), rfl⟩
      simp [z3, z4, z5]) (cut.zipIdx 0) [some (.scr (ns.map .int)), some (.int lap), none, some (.int (1000003 + 77 * lap)), some (.int (777767 + 1913 * lap)), none, none] h ⟨rfl, _, _, none, none, by omega, by omega, rfl⟩
  subst hh eds
  have efar : ∃ far : Int, 0 ≤ far ∧ mIf (mTb (mBin gLt (mVar 1) (mCB cLen (mCons (mVar 0) mNil)))) (mCB cAbs (mCons (mCB cInt (mCons (mBin gIx (mVar 0) (mVar 1)) mNil)) mNil)) (mC (.int 0)) [some (.scr (ns.map .int)), some (.int lap), none, some (.int l), some (.int r), t5, t6] h' = .ok (.int far) h' := by
    by_cases hc : lap < ns.length
    · have hi : atI (ns.map D.int) (lap : Int) = some (.int ns[lap]) := atI_nat (by omega) (by simp [hc])
      have hc' : (lap : Int) < ns.length := by omega
      refine ⟨if ns[lap] < 0 then -ns[lap] else ns[lap], by split <;> omega, ?_⟩
      simp [hc', hi, hc]
    · have hc' : ¬ (lap : Int) < ns.length := by omega
      refine ⟨0, by omega, ?_⟩
      simp [hc', hc]
  obtain ⟨far, hf0, efar⟩ := efar
  have p16 : gPow (.int 10) (.int 16) h' = some (.int (10 ^ 16), h') := by
    rw [v_pow, if_pos (by decide)]; rfl
  have p45 : gPow (.int 10) (.int 45) h' = some (.int (10 ^ 45), h') := by
    rw [v_pow, if_pos (by decide)]; rfl
  have pos45 : (0 : Int) < 10 ^ 45 := by decide
  have em : ∀ x : Int, gMod (.int x) (.int (10 ^ 45)) h' = some (.int (x % 10 ^ 45), h') := fun x => by rw [v_mod, if_pos pos45]
  have eret : ∃ a : Int, 0 ≤ a ∧ a < 10 ^ 45 ∧ mIf (mTb (mBin gGt (mVar 2) (mBin gPow (mC (.int 10)) (mC (.int 16))))) (mBin gMod (mCB cInt (mCons (mVar 2) mNil)) (mBin gPow (mC (.int 10)) (mC (.int 45)))) (mC (.int 0)) [some (.scr (ns.map .int)), some (.int lap), some (.int far), some (.int l), some (.int r), t5, t6] h' = .ok (.int a) h' := by
    by_cases hc : (10 : Int) ^ 16 < far
    · refine ⟨far % 10 ^ 45, Int.emod_nonneg _ (by decide), Int.emod_lt_of_pos _ pos45, ?_⟩
      rw [x_If]
      simp only [x_Tb, x_Bin, x_Var, x_C, List.getElem?_cons_succ, List.getElem?_cons_zero, slotR_some, Res.bind_ok, p16, Res.of_some, v_gt, v_onBl, hc, decide_true, if_true, x_CB, x_Cons, x_Nil, v_int_int, p45, em]
    · refine ⟨0, by decide, pos45, ?_⟩
      rw [x_If]
      simp only [x_Tb, x_Bin, x_Var, x_C, List.getElem?_cons_succ, List.getElem?_cons_zero, slotR_some, Res.bind_ok, p16, Res.of_some, v_gt, v_onBl, hc, decide_false, Bool.false_eq_true, if_false]
  obtain ⟨a, ha0, ha1, eret⟩ := eret
  refine ⟨.lst [.int a, .int l, .int r], ?_, a, l, r, rfl, ha0, ha1, hl0, hr0⟩
  have z1' : gMul (.int 77) (.int lap) h' = some (.int (77 * lap), h') := by rw [v_mul, z1]; rfl
  have z2' : gMul (.int 1913) (.int lap) h' = some (.int (1913 * lap), h') := by rw [v_mul, z2]; rfl
  unfold C.f__law_mill
  rw [x_Fn, if_pos (show [D.scr (List.map D.int ns), D.int (lap : Int)].length = 2 from rfl)]
  simp only [List.map_cons, List.map_nil, Nat.reduceSub, List.replicate, List.cons_append, List.nil_append, x_Seq, x_Par, x_Bin, x_C, x_Var, List.getElem?_cons_succ, List.getElem?_cons_zero, slotR_some, Res.bind_ok, z1', z2', Res.of_some, v_add_int, lift_ok, List.set_cons_succ, List.set_cons_zero, nxt_next, x_For, x_Args, x_Cons, x_Nil, x_Sl, x_NoPart, x_Part, partR_int, v_sl_scr, hcut, ea, itR_some, e, x_Set, efar, x_Ret, x_LstN, eret, List.length_cons, List.length_nil, Nat.zero_add, Nat.reduceAdd, z6, if_true, fin_ret]
end ML
set_option Elab.async false
set_option linter.all false
set_option maxRecDepth 100000
set_option maxHeartbeats 2000000
set_option autoImplicit false
/-! S: seasons. -/
namespace ML
open PySem PySem.Spec PyProof.Rows L2
theorem cxL_foldP {ι α β σ : Type} {ds0 : Sl} {mg : MGx ι} {mt : MT} {mb : MB α} {h : MH} (enc : β → ι) (ea : σ → α) (f : σ → β → σ) (P : σ → Prop) : ∀ (xs : List β) (a : σ), P a → (∀ x ∈ xs, ∃ ds1, mg (enc x) ds0 h = some (ds1, h) ∧ mt ds1 h = .ok true h ∧ ∀ a, P a → mb ds1 h (ea a) = .ok (ea (f a x)) h ∧ P (f a x)) →
    cxL ds0 mg mt mb (xs.map enc) h (ea a) = .ok (ea (xs.foldl f a)) h ∧ P (xs.foldl f a)
  | [], a, p, _ => ⟨rfl, p⟩
  | x :: xs, a, p, H => by
    obtain ⟨ds1, e1, e2, e3⟩ := H x (by simp)
    obtain ⟨e4, p1⟩ := e3 a p
    rw [List.map_cons, cxL_cons _ _ _ _ _ _ _ _ e1, e2, Res.nx_ok, Res.bind_ok, if_pos rfl, e4, Res.nx_ok, Res.bind_ok]
    exact cxL_foldP enc ea f P xs _ p1 fun y hy => H y (by simp [hy])

abbrev Gm := List (Str × Int)
def dP (p : Str × Int) : D := .tup [.str p.1, .int p.2]
def dG (g : Gm) : D := .tup (g.map dP)
def has (n : Str) (g : Gm) : Bool := g.any fun p => decide (p.1 = n)
def pts (g : Gm) (n : Str) : Int := (g.lookup n).getD 0
def dicG (g : Gm) : D := .dic (g.map fun p => .inr p.1) (g.map fun p => .int p.2)
def players : List Str := ["ann", "bob", "cat", "dora", "eve", "zachary", "q"]
def psort : List Str := ["ann", "bob", "cat", "dora", "eve", "q", "zachary"]
structure GOk (g : Gm) : Prop where
  nd : (g.map (·.1)).Nodup
  ne : 1 ≤ g.length
  le : g.length ≤ 8
  nm : ∀ p ∈ g, p.1 ∈ players
  lo : ∀ p ∈ g, -99 ≤ p.2
  hi : ∀ p ∈ g, p.2 ≤ 99
theorem has_iff {n : Str} {g : Gm} : has n g = true ↔ n ∈ g.map (·.1) := by
  simp [has]
theorem has_mem {n : Str} {g : Gm} (h : has n g = true) : ∃ p ∈ g, p.1 = n := by simpa [has] using h
theorem pts_of {g : Gm} (nd : (g.map (·.1)).Nodup) : ∀ p ∈ g, pts g p.1 = p.2 := by
  induction g with
  | nil => intro p hp; cases hp
  | cons q g ih =>
    intro p hp
    obtain ⟨k, v⟩ := q
    rw [List.map_cons, List.nodup_cons] at nd
    rcases List.mem_cons.mp hp with rfl | hp
    · simp [pts]
    · have hne : p.1 ≠ k := fun e => nd.1 (e ▸ List.mem_map.mpr ⟨p, hp, rfl⟩)
      have := ih nd.2 p hp
      unfold pts at this ⊢
      rw [List.lookup_cons]
      have hb : (p.1 == k) = false := by simpa using hne
      rw [hb]
      exact this
theorem putP_new {acc : KD} {k : Key} {d : D} (hk : k ∉ acc.map (·.1)) : putP acc k d = acc ++ [(k, d)] := by
  unfold putP
  rw [if_neg]
  simp only [List.any_eq_true, decide_eq_true_eq, not_exists, not_and]
  intro q hq e
  exact hk (List.mem_map.mpr ⟨q, hq, e⟩)
theorem mergeP_nodup : ∀ {more acc : KD}, ((acc ++ more).map (·.1)).Nodup → mergeP acc more = acc ++ more
  | [], acc, _ => by simp [mergeP]
  | q :: more, acc, nd => by
    have h1 : q.1 ∉ acc.map (·.1) := by
      rw [List.map_append, List.map_cons, List.nodup_append] at nd
      intro z
      exact nd.2.2 _ z _ (by simp) rfl
    show mergeP (putP acc q.1 q.2) more = _
    rw [putP_new h1, mergeP_nodup (by simpa using nd)]
    simp
theorem pairs_dP : ∀ g : Gm, pairsOf (g.map dP) = some (g.map fun p => (.inr p.1, .int p.2))
  | [] => rfl
  | p :: g => by
    have := pairs_dP g
    show (keyOf (.str p.1)).bind _ = _
    simp [keyOf, this]
theorem inr_nodup {l : List Str} (h : l.Nodup) : (l.map fun x => (Sum.inr x : Key)).Nodup := by
  rw [List.Nodup, List.pairwise_map]
  exact h.imp fun hab e => hab (Sum.inr.inj e)
section
variable {h : MH}
theorem v_dict {g : Gm} (nd : (g.map (·.1)).Nodup) : cDict [dG g] h = some (dicG g, h) := by
  have hm : mergeP [] (g.map fun p => ((.inr p.1 : Key), D.int p.2)) = g.map fun p => (.inr p.1, .int p.2) := by
    rw [mergeP_nodup]
    · simp
    · have := inr_nodup nd
      simpa [List.map_map, Function.comp_def] using this
  show (match pairsOf (g.map dP) with | some kds => some (mkDic (mergeP [] kds), h) | none => none) = _
  rw [pairs_dP]
  simp only [hm]
  simp [mkDic, dicG, List.map_map, Function.comp_def]
theorem hasK_inr {n : Str} : ∀ g : Gm, hasK (g.map fun p => (.inr p.1 : Key)) (.inr n) = has n g
  | [] => rfl
  | p :: g => by
    have := hasK_inr (n := n) g
    simp only [List.map_cons, hasK, this]
    have e : (decide ((Sum.inr p.1 : Key) = .inr n)) = decide (p.1 = n) := by
      by_cases h : p.1 = n
      · simp [h]
      · have : ¬ (Sum.inr p.1 : Key) = .inr n := fun e => h (Sum.inr.inj e)
        simp [h]
    rw [e]; rfl
@[simp] theorem v_inG (n : Str) (g : Gm) : gIn (.str n) (dicG g) h = some (.bl (has n g), h) := by
  show (inD (.str n) (dicG g) h).map _ = _
  have : inD (.str n) (dicG g) h = some (has n g) := by
    simp [inD, dicOf, dicG, keyOf, hasK_inr]
  rw [this]; rfl
theorem lookK_of {n : Str} : ∀ {g : Gm}, has n g = true → lookK (g.map fun p => (.inr p.1 : Key)) (g.map fun p => .int p.2) (.inr n) = some (.int (pts g n))
  | [], h => by simp [has] at h
  | p :: g, h => by
    obtain ⟨k, v⟩ := p
    simp only [List.map_cons, lookK]
    by_cases e : k = n
    · subst e
      simp [pts]
    · have e2 : ¬ (Sum.inr k : Key) = .inr n := fun z => e (Sum.inr.inj z)
      have hn : has n g = true := by
        simp only [has, List.any_cons, decide_eq_false e, Bool.false_or] at h
        exact h
      rw [if_neg e2, lookK_of hn]
      have hb : (n == k) = false := by simpa using fun z => e z.symm
      simp [pts, List.lookup_cons, hb]
theorem v_ixG {n : Str} {g : Gm} (hg : has n g = true) : gIx (dicG g) (.str n) h = some (.int (pts g n), h) := by
  show (gIx (.dic _ _) _ h) = _
  rw [v_ix_dic, lookK_of hg]; rfl
def isSeq (t : D) (gs : List Gm) : Prop := t = .lst (gs.map dG) ∨ t = .tup (gs.map dG)
theorem isSeq.its {t : D} {gs : List Gm} (ht : isSeq t gs) : itsA t = some (gs.map dG) := by rcases ht with rfl | rfl <;> rfl
theorem small {n : Nat} (hn : n ≤ 1000) : n ≤ sizeLine := Nat.le_trans hn (Nat.le_of_ble_eq_true rfl)
theorem e_games_of {t : D} {gs : List Gm} (ht : isSeq t gs) (hl : gs.length ≤ 1000) (ok : ∀ g ∈ gs, GOk g) (n : Str) : C.f_games_of [t, .str n] h = .ok (.lst ((gs.filter (has n)).map dicG)) h := by
  have e : lcL [some t, some (.str n), none] (tgName 2) (mTb (mBin gIn (mVar 1) (mCB cDict (mCons (mVar 2) mNil)))) (mCB cDict (mCons (mVar 2) mNil)) (gs.map dG) h = .ok ((gs.filter (has n)).map dicG) h := by
    refine lcL_flt _ _ _ _ fun g hg => ?_
    rw [lc1_of rfl]
    simp [v_dict (ok g hg).nd]
    cases has n g <;> simp [v_dict (ok g hg).nd]
  simp [C.f_games_of, ht.its, small hl, e]
def own (gs : List Gm) (n : Str) : List Gm := gs.filter (has n)
def tot (gs : List Gm) (n : Str) : Int := ((own gs n).map fun g => pts g n).sum
def won (gs : List Gm) (n : Str) : List Gm := (own gs n).filter fun g => decide (pts g n = maxI (g.map (·.2)))
theorem own_has {gs : List Gm} {n : Str} : ∀ g ∈ own gs n, has n g = true := fun g hg => (List.mem_filter.mp hg).2
theorem own_sub {gs : List Gm} {n : Str} : ∀ g ∈ own gs n, g ∈ gs := fun g hg => (List.mem_filter.mp hg).1
theorem own_len {gs : List Gm} {n : Str} : (own gs n).length ≤ gs.length := List.length_filter_le _ _
theorem e_total_of {t : D} {gs : List Gm} (ht : isSeq t gs) (hl : gs.length ≤ 1000) (ok : ∀ g ∈ gs, GOk g) (n : Str) : C.f_total_of [t, .str n] h = .ok (.int (tot gs n)) h := by
  have e : lcL [some t, some (.str n), none] (tgName 2) mYes (mBin gIx (mVar 2) (mVar 1)) ((own gs n).map dicG) h = .ok ((own gs n).map fun g => .int (pts g n)) h := by
    refine lcL_map _ _ _ fun g hg => ?_
    rw [lc1_of rfl]
    simp [v_ixG (own_has g hg)]
  have hl2 : (own gs n).length ≤ sizeLine := small (Nat.le_trans own_len hl)
  have eg := e_games_of (h := h) ht hl ok n
  simp [C.f_total_of, eg, show gs.filter (has n) = own gs n from rfl, hl2, e, tot]
theorem has_ne {n : Str} {g : Gm} (hg : has n g = true) : g ≠ [] := by rintro rfl; simp [has] at hg
theorem v_maxG {g : Gm} (hg : g ≠ []) : maxR ((dicOf (dicG g) h).bind fun q => intsOf q.2) h = .ok (.int (maxI (g.map (·.2)))) h := by
  have : intsOf (g.map fun p => D.int p.2) = some (g.map (·.2)) := ints_map _ _
  simp only [dicOf, dicG, Option.bind_some, this]
  cases g with
  | nil => exact absurd rfl hg
  | cons p g => simp
theorem e_wins_of {t : D} {gs : List Gm} (ht : isSeq t gs) (hl : gs.length ≤ 1000) (ok : ∀ g ∈ gs, GOk g) (n : Str) : C.f_wins_of [t, .str n] h = .ok (.int (won gs n).length) h := by
  have e : lcL [some t, some (.str n), none] (tgName 2) (mTb (mBin gEqX (mBin gIx (mVar 2) (mVar 1)) (mMaxV (mVar 2)))) (mC (.int 1)) ((own gs n).map dicG) h = .ok ((won gs n).map fun _ => .int 1) h := by
    refine lcL_flt _ _ _ _ fun g hg => ?_
    rw [lc1_of rfl]
    simp [v_ixG (own_has g hg), v_maxG (has_ne (own_has g hg))]
    by_cases hc : pts g n = maxI (g.map (·.2)) <;> simp [hc]
  have hl2 : (own gs n).length ≤ sizeLine := small (Nat.le_trans own_len hl)
  have eg := e_games_of (h := h) ht hl ok n
  simp [C.f_wins_of, eg, show gs.filter (has n) = own gs n from rfl, hl2, e]
/-! names -/
def nms (gs : List Gm) : List Str := psort.filter fun n => gs.any (has n)
theorem psort_sorted : psort.Pairwise (fun a b => sle a b = true) := by decide +kernel
theorem psort_nodup : psort.Nodup := by decide +kernel
theorem psort_mem (n : Str) : n ∈ psort ↔ n ∈ players := by
  have h1 : ∀ n ∈ psort, n ∈ players := by decide +kernel
  have h2 : ∀ n ∈ players, n ∈ psort := by decide +kernel
  exact ⟨h1 n, h2 n⟩
theorem nms_mem {gs : List Gm} (ok : ∀ g ∈ gs, GOk g) (n : Str) : n ∈ nms gs ↔ ∃ g ∈ gs, n ∈ g.map (·.1) := by
  simp only [nms, List.mem_filter, List.any_eq_true]
  constructor
  · rintro ⟨_, g, hg, e⟩
    exact ⟨g, hg, has_iff.mp e⟩
  · rintro ⟨g, hg, e⟩
    obtain ⟨p, hp, rfl⟩ := List.mem_map.mp e
    exact ⟨(psort_mem _).mpr ((ok g hg).nm p hp), g, hg, has_iff.mpr e⟩
theorem nms_len (gs : List Gm) : (nms gs).length ≤ 7 := List.length_filter_le _ _
theorem nms_eq {gs : List Gm} (ok : ∀ g ∈ gs, GOk g) {xs : List Str} (nd : xs.Nodup) (hm : ∀ n, n ∈ xs ↔ ∃ g ∈ gs, n ∈ g.map (·.1)) : sortS xs = nms gs := by
  have hp : (nms gs).Perm xs := (List.perm_ext_iff_of_nodup (psort_nodup.filter _) nd).2 fun n => (nms_mem ok n).trans (hm n).symm
  have h1 : (sortS xs).Pairwise (fun a b => sle a b = true) := List.pairwise_mergeSort (le := sle) (fun a b c => sle_trans) sle_total xs
  have h2 : (nms gs).Pairwise (fun a b => sle a b = true) := psort_sorted.filter _
  exact (((List.mergeSort_perm _ _).trans hp.symm).eq_of_pairwise (fun a b _ _ h1 h2 => sle_antisymm h1 h2) h1 h2)
def addN (ns : List Str) (n : Str) : List Str := if n ∈ ns then ns else ns ++ [n]
theorem addN_mem {ns : List Str} {n m : Str} : m ∈ addN ns n ↔ m ∈ ns ∨ m = n := by
  unfold addN
  split
  · rename_i hn
    constructor
    · exact .inl
    · rintro (h | rfl)
      · exact h
      · exact hn
  · simp
theorem addN_nodup {ns : List Str} {n : Str} (h : ns.Nodup) : (addN ns n).Nodup := by
  unfold addN
  split
  · exact h
  · rename_i hn
    rw [List.nodup_append]
    exact ⟨h, by simp, fun a ha b hb => by simp at hb; subst hb; exact fun e => hn (e ▸ ha)⟩
theorem fold_mem {m : Str} : ∀ {xs : List (Str × Int)} {ns : List Str}, m ∈ xs.foldl (fun a p => addN a p.1) ns ↔ m ∈ ns ∨ m ∈ xs.map (·.1)
  | [], ns => by simp
  | x :: xs, ns => by
    rw [List.foldl_cons, fold_mem (xs := xs), addN_mem, List.map_cons, List.mem_cons, or_assoc]
theorem fold_nodup : ∀ {xs : List (Str × Int)} {ns : List Str}, ns.Nodup → (xs.foldl (fun a p => addN a p.1) ns).Nodup
  | [], ns, h => h
  | x :: xs, ns, h => fold_nodup (xs := xs) (addN_nodup h)
def encN (ns : List Str) : KD := ns.map fun n => (.inr n, .bl true)
theorem putP_encN (ns : List Str) (n : Str) : putP (encN ns) (.inr n) (.bl true) = encN (addN ns n) := by
  unfold addN
  split
  · rename_i hn
    unfold putP
    rw [if_pos]
    · unfold encN
      rw [List.map_map]
      apply List.map_congr_left
      intro m _
      simp only [Function.comp]
      split <;> simp
    · simp only [encN, List.any_map, List.any_eq_true, Function.comp, decide_eq_true_eq]
      exact ⟨n, hn, rfl⟩
  · rename_i hn
    rw [putP_new]
    · simp [encN]
    · simp only [encN, List.map_map, List.mem_map, not_exists, not_and, Function.comp]
      intro m hm e
      exact hn (Sum.inr.inj e ▸ hm)
theorem sub_players {ns : List Str} (nd : ns.Nodup) (h : ∀ n ∈ ns, n ∈ players) : ns.length ≤ 7 := (List.Nodup.length_le_of_subset nd fun n hn => h n hn : ns.length ≤ players.length)
theorem keyStrs_inr : ∀ xs : List Str, keyStrs (xs.map fun n => (.inr n : Key)) = some xs
  | [] => rfl
  | x :: xs => by simp [keyStrs, keyStrs_inr xs]
theorem e_names_in {t : D} {gs : List Gm} (ht : isSeq t gs) (ok : ∀ g ∈ gs, GOk g) : C.f_names_in [t] h = .ok (.lst ((nms gs).map .str)) h := by
  have inner : ∀ g ∈ gs, ∀ (ds : Sl) (ns : List Str), (ns.Nodup ∧ ∀ n ∈ ns, n ∈ players) → ds.length = 4 →
      cxL ds (tgTup 2 (tgCons (tgName 2) (tgCons (tgName 3) tgNil))) mYes (mDk (mVar 2) (mC (.bl true))) (g.map dP) h (encN ns) = .ok (encN (g.foldl (fun a p => addN a p.1) ns)) h ∧ ((g.foldl (fun a p => addN a p.1) ns).Nodup ∧ ∀ n ∈ g.foldl (fun a p => addN a p.1) ns, n ∈ players) := by
    intro g hg ds ns hns hds
    match ds, hds with
    | [a, b, c, d], _ =>
      refine cxL_foldP dP encN (fun a p => addN a p.1) (fun ns => ns.Nodup ∧ ∀ n ∈ ns, n ∈ players) g ns hns fun p hp => ⟨_, rfl, rfl, fun ns hns => ⟨?_, addN_nodup hns.1, fun n hn => ?_⟩⟩
      · have hz : (encN ns).length < sizeLine := by
          have := sub_players hns.1 hns.2
          have h2 : (encN ns).length = ns.length := by simp [encN]
          have h3 := small (n := 8) (by decide)
          omega
        simp [keyOf, hz, putP_encN]
      · rcases addN_mem.mp hn with h1 | rfl
        · exact hns.2 n h1
        · exact (ok g hg).nm p hp
  have outer := cxL_foldP (h := h) (ds0 := [some t, none, none, none]) (mg := tgName 1) (mt := mYes) (mb := mFr [2, 3] (mItm itsA (mVar 1)) (tgTup 2 (tgCons (tgName 2) (tgCons (tgName 3) tgNil))) mYes (mDk (mVar 2) (mC (.bl true)))) dG encN (fun a g => g.foldl (fun a p => addN a p.1) a) (fun ns => ns.Nodup ∧ ∀ n ∈ ns, n ∈ players) gs [] ⟨List.nodup_nil, by simp⟩ fun g hg => ⟨_, rfl, rfl, fun ns hns => by
    have := inner g hg [some t, some (dG g), none, none] ns hns rfl
    refine ⟨?_, this.2⟩
    simp [dG]
    exact this.1⟩
  obtain ⟨e, nd, sub⟩ := outer
  have hm : ∀ (gs : List Gm) (ns : List Str) (m : Str), m ∈ gs.foldl (fun a g => g.foldl (fun a p => addN a p.1) a) ns ↔ m ∈ ns ∨ ∃ g ∈ gs, m ∈ g.map (·.1) := by
    intro gs
    induction gs with
    | nil => intro ns m; simp
    | cons g gs ih =>
      intro ns m
      rw [List.foldl_cons, ih, fold_mem]
      simp [or_assoc]
  have hs := nms_eq ok nd fun n => by rw [hm gs [] n]; simp
  have hlen := sub_players nd sub
  generalize gs.foldl (fun a g => g.foldl (fun a p => addN a p.1) a) [] = xs at *
  have ek : (encN xs).map (·.1) = xs.map fun n => (.inr n : Key) := by simp [encN]
  have e2 : cSortedX [mkDic (encN xs)] h = some (.lst ((nms gs).map .str), h) := by
    simp only [cSortedX, orC, cSorted, mkDic, dicOf, ek, keyStrs_inr, hs]
    rw [if_pos (by omega)]
  have e0 : encN [] = [] := rfl
  rw [e0] at e
  simp [C.f_names_in, ht.its, e, e2]
end
end ML
set_option Elab.async false
set_option linter.all false
set_option maxRecDepth 100000
set_option maxHeartbeats 2000000
set_option autoImplicit false
namespace ML
open PySem PySem.Spec PyProof.Rows L2
/-! sorted rows -/
def pr (gs : List Gm) (n : Str) : D := .tup [.int (0 - tot gs n), .str n]
def rk (gs : List Gm) (a b : Str) : Bool := PySem.W.dataLe false py (pr gs a) (pr gs b)
def stand (gs : List Gm) : List Str := (nms gs).mergeSort (rk gs)
theorem stand_mem {gs : List Gm} {n : Str} : n ∈ stand gs ↔ n ∈ nms gs := (List.mergeSort_perm _ _).mem_iff
def tri (gs : List Gm) (n : Str) : D := .tup [.int (0 - tot gs n), .str n, .int (won gs n).length]
theorem lt_tri (gs : List Gm) (a b : Str) : PySem.W.dataLt (py (tri gs a)) (py (tri gs b)) = PySem.W.dataLt (py (pr gs a)) (py (pr gs b)) := by
  by_cases e : a = b
  · subst e
    show PyProof.Rows.lexLt _ _ _ = PyProof.Rows.lexLt _ _ _
    rw [lex_irrefl, lex_irrefl]
  · have hs : PyData.eqv (.str a) (.str b) = false := by simp [PyData.eqv, e]
    simp only [tri, pr, py, pyAll]
    rw [PySem.W.dataLt_tuple, PySem.W.dataLt_tuple]
    rw [PySem.W.dataLt_cons (by simp [PySem.W.alike]), PySem.W.dataLt_cons (x := .int (0 - tot gs a)) (y := .int (0 - tot gs b)) (xs := [.str a]) (ys := [.str b]) (by simp [PySem.W.alike])]
    rw [PySem.W.dataLt_cons (x := .str a) (y := .str b) (by simp [PySem.W.alike]), PySem.W.dataLt_cons (x := .str a) (y := .str b) (by simp [PySem.W.alike])]
    rw [hs]
    simp
theorem le_tri (gs : List Gm) (a b : Str) : PySem.W.dataLe false py (tri gs a) (tri gs b) = rk gs a b := by
  unfold rk
  rw [PySem.W.dataLe_eq]
  simp only [cond_false, lt_tri]
theorem sortD_tri (gs : List Gm) : sortD ((nms gs).map (tri gs)) = (stand gs).map (tri gs) := (List.map_mergeSort fun a _ b _ => (le_tri gs a b).symm).symm
theorem sortD_pr (gs : List Gm) : sortD ((nms gs).map (pr gs)) = (stand gs).map (pr gs) := (List.map_mergeSort (r := rk gs) (s := PySem.W.dataLe false py) (f := pr gs) fun a _ b _ => rfl).symm
section
variable {h : MH}
theorem sortX_tup {l : List D} (hn : ∀ d ∈ l, ∃ a b, d = .tup (a :: b)) (ok : sortOk l = true) : cSortedX [.lst l] h = some (.lst (sortD l), h) := by
  cases l with
  | nil => simp [cSortedX, orC, cSorted, dicOf, lstOf, sortedL, intsOf, sortI, sortD]
  | cons d l =>
    obtain ⟨a, b, rfl⟩ := hn d (by simp)
    have e : cSorted [.lst (.tup (a :: b) :: l)] h = none := rfl
    simp only [cSortedX, orC, e, cSortD, lstOf, ok, if_true]
theorem alikeB_map {f : Str → D} {l : List Str} (H : ∀ a b, PySem.W.alike (py (f a)) (py (f b)) = true) : alikeB (l.map f) = true := by
  simp only [alikeB, List.all_eq_true, List.mem_map, forall_exists_index, and_imp, forall_apply_eq_imp_iff₂]
  exact fun a _ b _ => H a b
theorem plainAll_map {α : Type} {f : α → D} {l : List α} (H : ∀ a ∈ l, plain (f a) = true) : plainAll (l.map f) = true := plainAll_iff.mpr fun d hd => by
  obtain ⟨a, ha, rfl⟩ := List.mem_map.mp hd
  exact H a ha
theorem sortOk_tri (gs : List Gm) : sortOk ((nms gs).map (tri gs)) = true := by
  have h1 : plainAll ((nms gs).map (tri gs)) = true := plainAll_map fun a _ => by simp [tri, plain, plainAll]
  have h2 : alikeB ((nms gs).map (tri gs)) = true := alikeB_map fun a b => by simp [tri, py, pyAll, PySem.W.alike, PySem.W.alikeAll]
  have h3 : ((nms gs).map (tri gs)).all tupB = true := by simp [tri, tupB]
  have h4 := small (n := (nms gs).length) (by have := nms_len gs; omega)
  simp only [sortOk, h1, h2, sortB, h3, Bool.true_or, Bool.true_and]
  simp [tri, py, pyAll, PyData.depth, PyData.depthAll, h4]
theorem sortOk_pr (gs : List Gm) : sortOk ((nms gs).map (pr gs)) = true := by
  have h1 : plainAll ((nms gs).map (pr gs)) = true := plainAll_map fun a _ => by simp [pr, plain, plainAll]
  have h2 : alikeB ((nms gs).map (pr gs)) = true := alikeB_map fun a b => by simp [pr, py, pyAll, PySem.W.alike, PySem.W.alikeAll]
  have h3 : ((nms gs).map (pr gs)).all tupB = true := by simp [pr, tupB]
  have h4 := small (n := (nms gs).length) (by have := nms_len gs; omega)
  simp only [sortOk, h1, h2, sortB, h3, Bool.true_or, Bool.true_and]
  simp [pr, py, pyAll, PyData.depth, PyData.depthAll, h4]
theorem stand_len (gs : List Gm) : (stand gs).length ≤ 7 := by
  have := nms_len gs
  unfold stand
  rw [List.length_mergeSort]
  exact this
def row3 (gs : List Gm) (n : Str) : D := .tup [.str n, .int (tot gs n), .int (won gs n).length]
theorem two_le : (2 : Nat) ≤ sizeLine := small (by decide)
theorem three_le : (3 : Nat) ≤ sizeLine := small (by decide)
theorem one_le : (1 : Nat) ≤ sizeLine := small (by decide)
theorem e_standing_of {t : D} {gs : List Gm} (ht : isSeq t gs) (hl : gs.length ≤ 1000) (ok : ∀ g ∈ gs, GOk g) : C.f_standing_of [t] h = .ok (.lst ((stand gs).map (row3 gs))) h := by
  have e1 : lcL [some t, none, none, none, none] (tgName 2) mYes (mTup (mCons (mBin gSub (mC (.int 0)) (mCall 2 C.f_total_of (mCons (mVar 0) (mCons (mVar 2) mNil)))) (mCons (mVar 2) (mCons (mCall 2 C.f_wins_of (mCons (mVar 0) (mCons (mVar 2) mNil))) mNil)))) ((nms gs).map .str) h = .ok ((nms gs).map (tri gs)) h := by
    refine lcL_map _ _ _ fun n _ => ?_
    rw [lc1_of rfl]
    simp [e_total_of ht hl ok, e_wins_of ht hl ok, three_le, tri]
  have e2 := sortX_tup (h := h) (l := (nms gs).map (tri gs)) (fun d hd => by
    obtain ⟨n, _, rfl⟩ := List.mem_map.mp hd
    exact ⟨_, _, rfl⟩) (sortOk_tri gs)
  rw [sortD_tri] at e2
  have hz := small (n := (nms gs).length) (by have := nms_len gs; omega)
  have hz2 := small (n := (stand gs).length) (by have := stand_len gs; omega)
  have e3 : ∀ v : D, lcL [some t, some v, none, none, none] (tgTup 3 (tgCons (tgName 3) (tgCons (tgName 2) (tgCons (tgName 4) tgNil)))) mYes (mTup (mCons (mVar 2) (mCons (mBin gSub (mC (.int 0)) (mVar 3)) (mCons (mVar 4) mNil)))) ((stand gs).map (tri gs)) h = .ok ((stand gs).map (row3 gs)) h := fun v => by
    refine lcL_map _ _ _ fun n _ => ?_
    rw [lc1_of rfl]
    simp [three_le, row3]
  simp [C.f_standing_of, e_names_in ht ok, hz, hz2, e1, e2, e3]
/-! beaten -/
theorem strOk_players : ∀ n ∈ players, PySem.PyData.strOk n = true := by decide +kernel
def both (gs : List Gm) (n m : Str) : List Gm := (own gs n).filter (has m)
def beat (gs : List Gm) (n m : Str) : Bool := !decide (n = m) && (!(both gs n m).isEmpty && (both gs n m).all fun g => decide (pts g m < pts g n))
theorem ne_dics (l : List Gm) : gNeX (.lst (l.map dicG)) (.lst []) h = some (.bl (!l.isEmpty), h) := by
  cases l with
  | nil => rfl
  | cons g l => rfl
theorem e_has_beaten {t : D} {gs : List Gm} (ht : isSeq t gs) (hl : gs.length ≤ 1000) (ok : ∀ g ∈ gs, GOk g) {n m : Str} (hn : n ∈ players) (hm : m ∈ players) : C.f_has_beaten [t, .str n, .str m] h = .ok (.bl (beat gs n m)) h := by
  have e1 : lcL [some t, some (.str n), some (.str m), none, none] (tgName 4) (mTb (mBin gIn (mVar 2) (mVar 4))) (mVar 4) ((own gs n).map dicG) h = .ok ((both gs n m).map dicG) h := by
    refine lcL_flt _ _ _ _ fun g hg => ?_
    rw [lc1_of rfl]
    simp
    cases has m g <;> simp
  have e2 : ∀ v : D, lcL [some t, some (.str n), some (.str m), some v, none] (tgName 4) mYes (mBin gGt (mBin gIx (mVar 4) (mVar 1)) (mBin gIx (mVar 4) (mVar 2))) ((both gs n m).map dicG) h = .ok ((both gs n m).map fun g => .bl (decide (pts g m < pts g n))) h := fun v => by
    refine lcL_map _ _ _ fun g hg => ?_
    obtain ⟨h1, h2⟩ := List.mem_filter.mp hg
    rw [lc1_of rfl]
    simp [v_ixG (own_has g h1), v_ixG h2]
  have hz := small (Nat.le_trans (own_len (gs := gs) (n := n)) hl)
  have hz2 := small (Nat.le_trans (List.length_filter_le (has m) (own gs n)) (Nat.le_trans (own_len (gs := gs) (n := n)) hl))
  have eg := e_games_of (h := h) ht hl ok n
  have hz2' : (both gs n m).length ≤ sizeLine := hz2
  simp [C.f_has_beaten, eg, show gs.filter (has n) = own gs n from rfl, hz, e1, neX_str (strOk_players n hn) (strOk_players m hm), ne_dics, hz2', e2]
  unfold beat
  by_cases e : n = m
  · simp [e]
  · by_cases hb : both gs n m = []
    · simp [e, hb]
    · simp [e, hb]
end
end ML
set_option Elab.async false
set_option linter.all false
set_option maxRecDepth 100000
set_option maxHeartbeats 2000000
set_option autoImplicit false
namespace ML
open PySem PySem.Spec PyProof.Rows L2
/-- a season in the store -/
def sea (gs : List Gm) : Ob := .ins 45 [("kept", .tup (gs.map dG))]
def kep (gs : List Gm) : D := .tup (gs.map dG)
theorem kep_seq (gs : List Gm) : isSeq (kep gs) gs := .inr rfl
theorem sea_low (gs : List Gm) : (sea gs).low 0 = true := by
  show lowAll 0 [D.tup (gs.map dG)] = true
  simp only [lowAll, D.low, Bool.and_true]
  refine lowAll_iff.mpr fun d hd => ?_
  obtain ⟨g, _, rfl⟩ := List.mem_map.mp hd
  simp only [dG, D.low]
  refine lowAll_iff.mpr fun d hd => ?_
  obtain ⟨p, _, rfl⟩ := List.mem_map.mp hd
  rfl
section
variable {h : MH} {s : Nat} {gs : List Gm}
theorem e_fld (hs : h[s]? = some (sea gs)) {ds : Sl} {i : Nat} (e : ds[i]? = some (some (.ref s))) : mFld 45 "kept" (mVar i) ds h = .ok (kep gs) h := by
  simp [e, onIns_at hs]
  rfl
theorem in_names {n : Str} {ns : List Str} (hn : PySem.PyData.strOk n = true) (hs : ∀ m ∈ ns, PySem.PyData.strOk m = true ∧ m.length ≤ sizeLine) (hl : ns.length ≤ sizeLine) : inD (.str n) (.lst (ns.map .str)) h = some (decide (n ∈ ns)) := by
  have h1 : eqOk (viewL (.str n) h) = true := by simpa [ok_str] using hn
  have h2 : eqOk (.lst (ns.map .str)) = true := by
    refine eqOk_good (n := 1) ?_ (by decide)
    simp only [good, Bool.and_eq_true, decide_eq_true_eq, List.all_eq_true, List.length_map]
    refine ⟨hl, fun d hd => ?_⟩
    obtain ⟨m, hm, rfl⟩ := List.mem_map.mp hd
    simp [good, hs m hm]
  have e : inD (.str n) (.lst (ns.map .str)) h = if eqOk (viewL (.str n) h) && eqOk (.lst (ns.map .str)) then some ((ns.map D.str).any fun z => eqD z (viewL (.str n) h)) else none := rfl
  rw [e, h1, h2]
  simp only [Bool.and_true, if_true, Option.some.injEq, List.any_map]
  by_cases hm : n ∈ ns
  · simp only [hm, decide_true, List.any_eq_true]
    exact ⟨n, hm, by simp⟩
  · simp only [hm, decide_false, List.any_eq_false]
    intro m hm2 e
    simp at e
    exact hm (e ▸ hm2)
theorem psort_str : ∀ m ∈ psort, PySem.PyData.strOk m = true ∧ m.length ≤ 8 := by decide +kernel
theorem nms_str : ∀ m ∈ nms gs, PySem.PyData.strOk m = true ∧ m.length ≤ sizeLine := fun m hm => by
  have := psort_str m (List.mem_filter.mp hm).1
  exact ⟨this.1, small (by omega)⟩
theorem nms_small : (nms gs).length ≤ sizeLine := small (by have := nms_len gs; omega)
theorem e_need (hs : h[s]? = some (sea gs)) (ok : ∀ g ∈ gs, GOk g) {n : Str} (hn : n ∈ players) : C.f_Season_need [.ref s, .str n] h = if n ∈ nms gs then .ok .non h else .exc ⟨24, [("given", .str n)]⟩ h := by
  have ef : mFld 45 "kept" (mVar 0) [some (.ref s), some (.str n)] h = .ok (kep gs) h := e_fld hs rfl
  have en := e_names_in (h := h) (kep_seq gs) ok
  have ei := in_names (h := h) (strOk_players n hn) (nms_str (gs := gs)) nms_small
  have eni : gNotIn (.str n) (.lst ((nms gs).map .str)) h = some (.bl (!decide (n ∈ nms gs)), h) := by
    show (inD _ _ _).map _ = _
    rw [ei]; rfl
  unfold C.f_Season_need
  simp only [x_Fn, x_IfS, x_OrT, x_NotT, x_Tr, x_CB, x_Cons, x_Var, x_C, x_Nil, Res.bind_ok, List.map_cons, List.map_nil, List.length_cons, List.length_nil, List.getElem?_cons_succ, List.getElem?_cons_zero, List.cons_append, List.nil_append, slotR_some, Nat.sub_self, List.replicate_zero, List.append_nil, Nat.zero_add, Nat.reduceAdd, if_true, v_isi_str_str, Res.of_some, v_tru_bl, onSome_some, Bool.not_true, Bool.false_eq_true, if_false, x_Tb, x_Bin, x_Call, ef, en, eni, v_onBl, lift_ok, x_Raise, x_Next]
  by_cases hm : n ∈ nms gs <;> simp [hm]
end
end ML
set_option Elab.async false
set_option linter.all false
set_option maxRecDepth 100000
set_option maxHeartbeats 2000000
set_option autoImplicit false
namespace ML
open PySem PySem.Spec PyProof.Rows L2
section
variable {h : MH} {s : Nat} {gs : List Gm}
theorem nf (x : Str) (d : D) (e : ((x == ("kept" : Str)) = false)) : ([("kept", d)] : List (Str × D)).lookup x = none := by
  rw [List.lookup_cons, e]; rfl
@[simp] theorem nf1 (d : D) : ([("kept", d)] : List (Str × D)).lookup ("need" : Str) = none := nf "need" _ (by decide)
@[simp] theorem nf2 (d : D) : ([("kept", d)] : List (Str × D)).lookup ("total" : Str) = none := nf "total" _ (by decide)
@[simp] theorem nf3 (d : D) : ([("kept", d)] : List (Str × D)).lookup ("wins" : Str) = none := nf "wins" _ (by decide)
@[simp] theorem nf4 (d : D) : ([("kept", d)] : List (Str × D)).lookup ("games" : Str) = none := nf "games" _ (by decide)
@[simp] theorem nf5 (d : D) : ([("kept", d)] : List (Str × D)).lookup ("beaten" : Str) = none := nf "beaten" _ (by decide)
@[simp] theorem nf6 (d : D) : ([("kept", d)] : List (Str × D)).lookup ("standing" : Str) = none := nf "standing" _ (by decide)
@[simp] theorem nf7 (d : D) : ([("kept", d)] : List (Str × D)).lookup ("add" : Str) = none := nf "add" _ (by decide)
@[simp] theorem nf8 (d : D) : ([("kept", d)] : List (Str × D)).lookup ("undo" : Str) = none := nf "undo" _ (by decide)
@[simp] theorem kf (d : D) : ([("kept", d)] : List (Str × D)).lookup ("kept" : Str) = some d := by rw [List.lookup_cons, beq_self_eq_true]
/-- what is refused of a name -/
def unk (n : Str) (h : MH) : Res D := .exc ⟨24, [("given", .str n)]⟩ h
theorem e_total (hs : h[s]? = some (sea gs)) (hl : gs.length ≤ 1000) (ok : ∀ g ∈ gs, GOk g) {n : Str} (hn : n ∈ players) : C.f_Season_total [.ref s, .str n] h = if n ∈ nms gs then .ok (.int (tot gs n)) h else unk n h := by
  have en := e_need hs ok hn
  have et := e_total_of (h := h) (kep_seq gs) hl ok n
  have hs' := onIns_at (α := D) hs
  unfold kep at et
  simp only [C.f_Season_total, unk]
  by_cases hm : n ∈ nms gs <;> simp [hm, en, hs', et]
theorem e_wins (hs : h[s]? = some (sea gs)) (hl : gs.length ≤ 1000) (ok : ∀ g ∈ gs, GOk g) {n : Str} (hn : n ∈ players) : C.f_Season_wins [.ref s, .str n] h = if n ∈ nms gs then .ok (.int (won gs n).length) h else unk n h := by
  have en := e_need hs ok hn
  have et := e_wins_of (h := h) (kep_seq gs) hl ok n
  have hs' := onIns_at (α := D) hs
  unfold kep at et
  simp only [C.f_Season_wins, unk]
  by_cases hm : n ∈ nms gs <;> simp [hm, en, hs', et]
theorem e_games (hs : h[s]? = some (sea gs)) (hl : gs.length ≤ 1000) (ok : ∀ g ∈ gs, GOk g) {n : Str} (hn : n ∈ players) : C.f_Season_games [.ref s, .str n] h = if n ∈ nms gs then .ok (.int (own gs n).length) h else unk n h := by
  have en := e_need hs ok hn
  have et := e_games_of (h := h) (kep_seq gs) hl ok n
  have hs' := onIns_at (α := D) hs
  unfold kep at et
  simp only [C.f_Season_games, unk]
  by_cases hm : n ∈ nms gs <;> simp [hm, en, hs', et, own]
theorem e_standing (hs : h[s]? = some (sea gs)) (hl : gs.length ≤ 1000) (ok : ∀ g ∈ gs, GOk g) : C.f_Season_standing [.ref s] h = .ok (.tup ((stand gs).map (row3 gs))) h := by
  have et := e_standing_of (h := h) (kep_seq gs) hl ok
  have hs' := onIns_at (α := D) hs
  unfold kep at et
  simp [C.f_Season_standing, hs', et]
def beats (gs : List Gm) (n : Str) : List Str := (nms gs).filter (beat gs n)
theorem nms_players {n : Str} (hn : n ∈ nms gs) : n ∈ players := (psort_mem n).mp (List.mem_filter.mp hn).1
theorem e_beaten (hs : h[s]? = some (sea gs)) (hl : gs.length ≤ 1000) (ok : ∀ g ∈ gs, GOk g) {n : Str} (hn : n ∈ players) : C.f_Season_beaten [.ref s, .str n] h = if n ∈ nms gs then .ok (.tup ((beats gs n).map .str)) h else unk n h := by
  have en := e_need hs ok hn
  have et := e_names_in (h := h) (kep_seq gs) ok
  have eb : ∀ m ∈ players, C.f_has_beaten [kep gs, .str n, .str m] h = .ok (.bl (beat gs n m)) h := fun m hm => e_has_beaten (kep_seq gs) hl ok hn hm
  have hs' := onIns_at (α := D) hs
  have e1 : lcL [some (.ref s), some (.str n), none] (tgName 2) (mTr (mCall 3 C.f_has_beaten (mCons (mFld 45 "kept" (mVar 0)) (mCons (mVar 1) (mCons (mVar 2) mNil))))) (mVar 2) ((nms gs).map .str) h = .ok ((beats gs n).map .str) h := by
    refine lcL_flt _ _ _ _ fun m hm => ?_
    rw [lc1_of rfl]
    have := eb m (nms_players hm)
    unfold kep at this
    simp [hs', this]
    cases beat gs n m <;> simp
  unfold kep at et
  simp only [C.f_Season_beaten, unk]
  by_cases hm : n ∈ nms gs <;> simp [hm, en, hs', et, e1, nms_small]
theorem dP_ok : ∀ {p : Str × Int}, p.1 ∈ players → -99 ≤ p.2 → p.2 ≤ 99 → C.f_is_result [dP p] h = .ok (.bl true) h := by
  intro p hn h0 h1
  have hname : ∀ n ∈ players, nameOk n = true ∧ n.length ≤ 8 := by decide +kernel
  have a0 : atI [D.str p.1, D.int p.2] 0 = some (.str p.1) := rfl
  have a1 : atI [D.str p.1, D.int p.2] 1 = some (.int p.2) := rfl
  have en := e_is_name (h := h) (x := p.1) (small (by have := (hname p.1 hn).2; omega))
  rw [(hname p.1 hn).1] at en
  simp [C.f_is_result, dP, a0, a1, en]
  exact ⟨h0, h1⟩
theorem e_is_game {g : Gm} (ok : GOk g) : C.f_is_game [dG g] h = .ok (.bl true) h := by
  have e1 : lcL [some (.tup (g.map dP)), none] (tgName 1) mYes (mCall 1 C.f_is_result (mCons (mVar 1) mNil)) (g.map dP) h = .ok (g.map fun _ => .bl true) h := by
    refine lcL_map _ _ _ fun p hp => ?_
    rw [lc1_of rfl]
    simp [dP_ok (ok.nm p hp) (ok.lo p hp) (ok.hi p hp)]
  have h1 : (1 : Int) ≤ g.length := by have := ok.ne; omega
  have h2 : (g.length : Int) ≤ 8 := by have := ok.le; omega
  have ha := v_all (h := h) (fun _ : Str × Int => true) g
  have hd := v_dict (h := h) ok.nd
  have hz := small (n := g.length) (by have := ok.le; omega)
  have hd' : cDict [.tup (g.map dP)] h = some (dicG g, h) := hd
  have e3 : cLen [dicG g] h = some (.int g.length, h) := by
    show some (D.int ((g.map fun p => (.inr p.1 : Key)).length : Int), h) = _
    simp
  simp [C.f_is_game, dG, h1, h2, e1, ha, hz, hd', e3]
theorem e_add (hs : h[s]? = some (sea gs)) (hl : gs.length < 200) {g : Gm} (ok : GOk g) : C.f_Season_add [.ref s, dG g] h = .ok .non (h.set s (sea (gs ++ [g]))) := by
  have hs' := onIns_at (α := D) hs
  have eg := e_is_game (h := h) ok
  have hne : ¬ (gs.length : Int) = 200 := by omega
  have hz := small (n := gs.length + 1) (by omega)
  simp [C.f_Season_add, hs', eg, hne, hz, one_le, putD, sea]
theorem good_dP {p : Str × Int} (hn : p.1 ∈ players) : good 1 (dP p) = true := by
  have hlen : ∀ n ∈ players, n.length ≤ 8 := by decide +kernel
  have h1 := small (n := p.1.length) (by have := hlen p.1 hn; omega)
  simp [good, dP, strOk_players p.1 hn, h1, two_le]
theorem good_dG {g : Gm} (ok : GOk g) : good 2 (dG g) = true := by
  have hz := small (n := g.length) (by have := ok.le; omega)
  simp only [good, dG, Bool.and_eq_true, decide_eq_true_eq, List.all_eq_true, List.length_map]
  refine ⟨hz, fun d hd => ?_⟩
  obtain ⟨p, hp, rfl⟩ := List.mem_map.mp hd
  exact good_dP (ok.nm p hp)
theorem good_kep (hl : gs.length ≤ 1000) (ok : ∀ g ∈ gs, GOk g) : good 3 (kep gs) = true := by
  simp only [good, kep, Bool.and_eq_true, decide_eq_true_eq, List.all_eq_true, List.length_map]
  refine ⟨small hl, fun d hd => ?_⟩
  obtain ⟨g, hg, rfl⟩ := List.mem_map.mp hd
  exact good_dG (ok g hg)
theorem eqD_nil {l : List D} : eqD (.tup l) (.tup []) = l.isEmpty := by
  cases l with
  | nil => rfl
  | cons a l => rfl
theorem eqD_nilL {l : List D} : eqD (.lst l) (.lst []) = l.isEmpty := by
  cases l with
  | nil => rfl
  | cons a l => rfl
theorem ok_nil : eqOk (.tup []) = true := rfl
theorem ok_nilL : eqOk (.lst []) = true := rfl
theorem eq_kep (hl : gs.length ≤ 1000) (ok : ∀ g ∈ gs, GOk g) : gEqX (.tup (gs.map dG)) (.tup []) h = some (.bl gs.isEmpty, h) := by
  have h1 : eqOk (.tup (gs.map dG)) = true := eqOk_good (good_kep hl ok) (by decide)
  rw [eqX_of (by simpa using h1) (by rw [view_tup]; rfl), view_tup, view_tup, eqD_nil]
  simp
theorem ne_kep (hl : gs.length ≤ 1000) (ok : ∀ g ∈ gs, GOk g) : gNeX (.tup (gs.map dG)) (.tup []) h = some (.bl (!gs.isEmpty), h) := by
  have h1 : eqOk (.tup (gs.map dG)) = true := eqOk_good (good_kep hl ok) (by decide)
  rw [neX_of (by simpa using h1) (by rw [view_tup]; rfl), view_tup, view_tup, eqD_nil]
  simp
theorem ne_gsL (hl : gs.length ≤ 1000) (ok : ∀ g ∈ gs, GOk g) : gNeX (.lst (gs.map dG)) (.lst []) h = some (.bl (!gs.isEmpty), h) := by
  have h0 : good 3 (.lst (gs.map dG)) = true := good_kep hl ok
  have h1 : eqOk (.lst (gs.map dG)) = true := eqOk_good h0 (by decide)
  rw [neX_of (by simpa using h1) (by rw [view_lst]; rfl), view_lst, view_lst, eqD_nilL]
  simp
theorem cut_last {α : Type} (l : List α) : cutL l none (some (-1)) = l.dropLast := by
  unfold cutL
  have h1 : HT.sIx l.length l.length (some (-1)) = l.length - 1 := by
    show (if (-1 : Int) < 0 then ((-1 : Int) + (l.length : Int)).toNat else min (-1 : Int).toNat l.length) = _
    rw [if_pos (by decide)]
    omega
  rw [h1, HT.sIx_none, List.drop_zero, Nat.sub_zero, List.dropLast_eq_take]
theorem e_undo (hs : h[s]? = some (sea gs)) (hl : gs.length ≤ 1000) (ok : ∀ g ∈ gs, GOk g) : C.f_Season_undo [.ref s] h = if gs.isEmpty then .exc ⟨27, [("given", .int 0)]⟩ h else .ok .non (h.set s (sea gs.dropLast)) := by
  have hs' := onIns_at (α := D) hs
  have e1 := eq_kep (h := h) hl ok
  cases hb : gs.isEmpty <;> simp [C.f_Season_undo, hs', e1, hb, cut_last, putD, sea, List.map_dropLast]
end
end ML
set_option Elab.async false
set_option linter.all false
set_option maxRecDepth 100000
set_option maxHeartbeats 2000000
set_option autoImplicit false
/-! texts of seasons -/
namespace ML
open PySem PySem.Spec PyProof.Rows L2
def wd (p : Str × Int) : Str := p.1 ++ ":" ++ istr p.2
def lineOf (g : Gm) : Str := Txt.join " " (g.map wd)
def txt (gs : List Gm) : Str := if gs.isEmpty then "-" else Txt.join "\n" (gs.map lineOf)
def plist : List Int := (List.range 199).map fun (i : Nat) => (i : Int) - 99
theorem plist_mem {p : Int} (h0 : -99 ≤ p) (h1 : p ≤ 99) : p ∈ plist := List.mem_map.mpr ⟨(p + 99).toNat, List.mem_range.mpr (by omega), by omega⟩
def wlist : List (Str × Int) := players.flatMap fun n => plist.map fun p => (n, p)
theorem wlist_mem {p : Str × Int} (hn : p.1 ∈ players) (h0 : -99 ≤ p.2) (h1 : p.2 ≤ 99) : p ∈ wlist := List.mem_flatMap.mpr ⟨p.1, hn, List.mem_map.mpr ⟨p.2, plist_mem h0 h1, rfl⟩⟩
theorem told_all (h : MH) : (plist.map fun p => C.f_points_told [.str (istr p)] h) = plist.map fun p => .ok (.int p) h := by kernel_rfl
theorem count_all : (wlist.all fun p => Txt.count (wd p) ":" == 1) = true := by decide +kernel
theorem p_facts : (plist.all fun p => decide ((istr p).length ≤ 3) && (!(istr p).cps.toList.contains 32 && (!(istr p).cps.toList.contains 10 && (!(istr p).cps.toList.contains 58 && (PySem.PyData.strOk (istr p) && decide (p.natAbs.log2 < 1920)))))) = true := by decide +kernel
theorem n_facts : (players.all fun n => decide (n.length ≤ 7) && (!n.cps.toList.contains 32 && (!n.cps.toList.contains 10 && (!n.cps.toList.contains 58)))) = true := by decide +kernel
theorem map_at {α β : Type} {f g : α → β} : ∀ {l : List α}, l.map f = l.map g → ∀ x ∈ l, f x = g x
  | [], _, x, hx => by cases hx
  | a :: l, e, x, hx => by
    rw [List.map_cons, List.map_cons] at e
    injection e with e1 e2
    rcases List.mem_cons.mp hx with rfl | hx
    · exact e1
    · exact map_at e2 x hx
structure WOk (p : Str × Int) : Prop where
  nm : p.1 ∈ players
  lo : -99 ≤ p.2
  hi : p.2 ≤ 99
theorem GOk.w {g : Gm} (ok : GOk g) : ∀ p ∈ g, WOk p := fun p hp => ⟨ok.nm p hp, ok.lo p hp, ok.hi p hp⟩
theorem pf {p : Int} (h0 : -99 ≤ p) (h1 : p ≤ 99) : (istr p).length ≤ 3 ∧ 32 ∉ TL.tl (istr p) ∧ 10 ∉ TL.tl (istr p) ∧ 58 ∉ TL.tl (istr p) ∧ PySem.PyData.strOk (istr p) = true ∧ p.natAbs.log2 < 1920 := by
  have := List.all_eq_true.mp p_facts p (plist_mem h0 h1)
  simpa using this
theorem nfa {n : Str} (hn : n ∈ players) : n.length ≤ 7 ∧ 32 ∉ TL.tl n ∧ 10 ∉ TL.tl n ∧ 58 ∉ TL.tl n := by
  have := List.all_eq_true.mp n_facts n hn
  simpa using this
theorem wd_tl (p : Str × Int) : TL.tl (wd p) = TL.tl p.1 ++ ([58] ++ TL.tl (istr p.2)) := by
  show TL.tl (p.1 ++ ":" ++ istr p.2) = _
  rw [TL.tl_append, TL.tl_append, List.append_assoc]
  rfl
theorem wd_len {p : Str × Int} (ok : WOk p) : (wd p).length ≤ 11 := by
  have h1 := (nfa ok.nm).1
  have h2 := (pf ok.lo ok.hi).1
  rw [TL.len_tl] at h1 h2 ⊢
  rw [wd_tl]
  simp only [List.length_append, List.length_cons, List.length_nil]
  omega
theorem wd_no {p : Str × Int} (ok : WOk p) : 32 ∉ TL.tl (wd p) ∧ 10 ∉ TL.tl (wd p) := by
  obtain ⟨_, a1, a2, _⟩ := nfa ok.nm
  obtain ⟨_, b1, b2, _⟩ := pf ok.lo ok.hi
  rw [wd_tl]
  simp [a1, a2, b1, b2]
theorem wd_join (p : Str × Int) : wd p = Txt.join ":" [p.1, istr p.2] := by
  rw [TL.join_eq]; rfl
theorem wd_split {p : Str × Int} (ok : WOk p) : Txt.split (wd p) ":" = [p.1, istr p.2] := by
  rw [wd_join]
  refine TL.split_join (s := 58) (S := []) rfl (by decide +kernel) (by simp) ?_
  intro q hq
  rcases List.mem_cons.mp hq with rfl | hq
  · exact (nfa ok.nm).2.2.2
  · rw [List.mem_singleton.mp hq]
    exact (pf ok.lo ok.hi).2.2.2.1
section
variable {h : MH}
theorem e_points_told {p : Int} (h0 : -99 ≤ p) (h1 : p ≤ 99) : C.f_points_told [.str (istr p)] h = .ok (.int p) h := map_at (told_all h) p (plist_mem h0 h1)
theorem e_result_told {p : Str × Int} (ok : WOk p) : C.f_result_told [.str (wd p)] h = .ok (dP p) h := by
  have hc : Txt.count (wd p) ":" = 1 := by
    have := List.all_eq_true.mp count_all p (wlist_mem ok.nm ok.lo ok.hi)
    simpa using this
  have h1 : fCount (.str (wd p)) [.str ":"] h = some (.int 1, h) := by
    show some (D.int (Txt.count (wd p) ":"), h) = _
    rw [hc]
  have hz : (wd p).length + 2 ≤ sizeLine := small (by have := wd_len ok; omega)
  have h2 : fSplit (.str (wd p)) [.str ":"] h = some (.lst [.str p.1, .str (istr p.2)], h) := by
    simp only [fSplit]
    rw [if_pos ⟨by decide, hz⟩, wd_split ok]
    rfl
  simp [C.f_result_told, h1, h2, e_points_told ok.lo ok.hi, two_le, dP]
/-- the signs of a joined text -/
theorem joinL_mem {c : Nat} {S : List Nat} : ∀ {ps : List (List Nat)}, c ∈ TL.joinL S ps → c ∈ S ∨ ∃ p ∈ ps, c ∈ p
  | [], h => by cases h
  | [p], h => .inr ⟨p, by simp, h⟩
  | p :: q :: r, h => by
    rcases List.mem_append.mp (show c ∈ p ++ (S ++ TL.joinL S (q :: r)) from h) with h | h
    · exact .inr ⟨p, by simp, h⟩
    · rcases List.mem_append.mp h with h | h
      · exact .inl h
      · rcases joinL_mem h with h | ⟨x, hx, h⟩
        · exact .inl h
        · exact .inr ⟨x, by simp [List.mem_cons.mp hx], h⟩
theorem join_mem {c : Nat} {y : Str} {ps : List Str} (h : c ∈ TL.tl (Txt.join y ps)) : c ∈ TL.tl y ∨ ∃ p ∈ ps, c ∈ TL.tl p := by
  rw [TL.join_eq, TL.tl_join] at h
  rcases joinL_mem h with h | ⟨q, hq, h⟩
  · exact .inl h
  · obtain ⟨p, hp, rfl⟩ := List.mem_map.mp hq
    exact .inr ⟨p, hp, h⟩
theorem joinL_len {S : List Nat} {k : Nat} : ∀ {ps : List (List Nat)}, (∀ p ∈ ps, p.length ≤ k) → (TL.joinL S ps).length ≤ ps.length * (k + S.length)
  | [], _ => by simp [TL.joinL]
  | [p], h => by
    have := h p (by simp)
    simp [TL.joinL]
    omega
  | p :: q :: r, h => by
    have h1 := h p (by simp)
    have h2 := joinL_len (ps := q :: r) (S := S) fun x hx => h x (by simp [List.mem_cons.mp hx])
    show (p ++ (S ++ TL.joinL S (q :: r))).length ≤ _
    simp only [List.length_append, List.length_cons] at h2 ⊢
    rw [Nat.succ_mul]
    omega
theorem join_len {y : Str} {ps : List Str} {k : Nat} (h : ∀ p ∈ ps, p.length ≤ k) : (Txt.join y ps).length ≤ ps.length * (k + y.length) := by
  rw [TL.len_tl, TL.join_eq, TL.tl_join]
  have := joinL_len (S := TL.tl y) (ps := ps.map TL.tl) (k := k) fun p hp => by
    obtain ⟨q, hq, rfl⟩ := List.mem_map.mp hp
    rw [← TL.len_tl]
    exact h q hq
  rw [List.length_map, ← TL.len_tl] at this
  exact this
theorem sum_len {α : Type} {f : α → Nat} {k : Nat} : ∀ {l : List α}, (∀ x ∈ l, f x ≤ k) → (l.map f).sum ≤ l.length * k
  | [], _ => by simp
  | a :: l, h => by
    have h1 := h a (by simp)
    have h2 := sum_len (l := l) fun x hx => h x (by simp [hx])
    simp only [List.map_cons, List.sum_cons, List.length_cons, Nat.succ_mul]
    omega
theorem line_len {g : Gm} (ok : GOk g) : (lineOf g).length ≤ 96 := by
  have := join_len (y := " ") (ps := g.map wd) (k := 11) fun p hp => by
    obtain ⟨q, hq, rfl⟩ := List.mem_map.mp hp
    exact wd_len (ok.w q hq)
  rw [List.length_map] at this
  have h1 : (" " : Str).length = 1 := by decide
  rw [h1] at this
  have := ok.le
  unfold lineOf
  omega
theorem line_no {g : Gm} (ok : GOk g) : 10 ∉ TL.tl (lineOf g) := fun hm => by
  rcases join_mem hm with h | ⟨p, hp, h⟩
  · exact absurd h (by decide)
  · obtain ⟨q, hq, rfl⟩ := List.mem_map.mp hp
    exact (wd_no (ok.w q hq)).2 h
theorem line_split {g : Gm} (ok : GOk g) : Txt.split (lineOf g) " " = g.map wd := by
  refine TL.split_join (s := 32) (S := []) rfl (by decide +kernel) ?_ ?_
  · intro e
    have := ok.ne
    rw [List.map_eq_nil_iff] at e
    subst e
    simp at this
  · intro p hp
    obtain ⟨q, hq, rfl⟩ := List.mem_map.mp hp
    exact (wd_no (ok.w q hq)).1
theorem empty_app (x : Str) : Str.empty ++ x = x := TL.ext_tl (by rw [TL.tl_append]; rfl)
theorem e_text_of_game {g : Gm} (ok : GOk g) : C.f_text_of_game [dG g] h = .ok (.str (lineOf g)) h := by
  have e1 : lcL [some (.tup (g.map dP)), none, none] (tgTup 2 (tgCons (tgName 1) (tgCons (tgName 2) tgNil))) mYes (mJs [mFmt (mVar 1), mFmt (mC (.str ":")), mFmt (mVar 2)] Str.empty) (g.map dP) h = .ok (g.map fun p => .str (wd p)) h := by
    refine lcL_map _ _ _ fun p hp => ?_
    have w := ok.w p hp
    have f1 : fmtD (.str p.1) = some p.1 := by
      simp only [fmtD]
      rw [if_pos (small (by have := (nfa w.nm).1; omega))]
    have f2 : fmtD (.str ":") = some (":" : Str) := by
      simp only [fmtD]
      rw [if_pos (small (by decide))]
    have f3 : fmtD (.int p.2) = some (istr p.2) := by
      simp only [fmtD]
      rw [if_pos (pf w.lo w.hi).2.2.2.2.2]
    have hw := wd_len w
    have l1 : p.1.length ≤ sizeLine := small (by have := (nfa w.nm).1; omega)
    have l3 : (wd p).length ≤ sizeLine := small (by omega)
    have l2 : (p.1 ++ ":").length ≤ sizeLine := by
      have : (wd p).length = (p.1 ++ ":").length + (istr p.2).length := by
        rw [TL.len_tl, TL.len_tl, TL.len_tl, ← List.length_append, ← TL.tl_append]
        rfl
      omega
    rw [lc1_of rfl]
    have l3' : (p.1 ++ ":" ++ istr p.2).length ≤ sizeLine := l3
    simp [f1, f2, f3, empty_app, l1, l2, l3', wd]
  have hz := small (n := g.length) (by have := ok.le; omega)
  have hj : (g.map fun p => (wd p).length).sum + g.length * (" " : Str).length ≤ 16777216 := by
    have h1 : (" " : Str).length = 1 := by decide
    have h2 := sum_len (f := fun p => (wd p).length) (k := 11) (l := g) fun p hp => wd_len (ok.w p hp)
    have := ok.le
    rw [h1]
    omega
  have e2 := join_of (h := h) (" " : Str) wd g hj
  simp [C.f_text_of_game, dG, e1, hz, e2, lineOf]
theorem txt_len {gs : List Gm} (hl : gs.length ≤ 1000) (ok : ∀ g ∈ gs, GOk g) : (txt gs).length ≤ 100000 := by
  unfold txt
  split
  · exact Nat.le_trans (show ("-" : Str).length ≤ 1 by decide +kernel) (by omega)
  · have := join_len (y := "\n") (ps := gs.map lineOf) (k := 96) fun p hp => by
      obtain ⟨q, hq, rfl⟩ := List.mem_map.mp hp
      exact line_len (ok q hq)
    have h1 : ("\n" : Str).length = 1 := by decide +kernel
    rw [List.length_map, h1] at this
    omega
theorem e_text_of_games {gs : List Gm} (hl : gs.length ≤ 1000) (ok : ∀ g ∈ gs, GOk g) : C.f_text_of_games [.tup (gs.map dG)] h = .ok (.str (txt gs)) h := by
  have e1 : lcL [some (.tup (gs.map dG)), none] (tgName 1) mYes (mCall 1 C.f_text_of_game (mCons (mVar 1) mNil)) (gs.map dG) h = .ok (gs.map fun g => .str (lineOf g)) h := by
    refine lcL_map _ _ _ fun g hg => ?_
    rw [lc1_of rfl]
    simp [e_text_of_game (ok g hg)]
  have hj : (gs.map fun g => (lineOf g).length).sum + gs.length * ("\n" : Str).length ≤ 16777216 := by
    have h1 : ("\n" : Str).length = 1 := by decide +kernel
    have h2 := sum_len (f := fun g => (lineOf g).length) (k := 96) (l := gs) fun g hg => line_len (ok g hg)
    rw [h1]
    omega
  have e2 := join_of (h := h) ("\n" : Str) lineOf gs hj
  have e3 := ne_kep (h := h) hl ok
  have hz := small hl
  unfold txt
  cases hb : gs.isEmpty <;> simp [C.f_text_of_games, e3, hb, e1, e2, hz]
theorem e_season_text {s : Nat} {gs : List Gm} (hs : h[s]? = some (sea gs)) (hl : gs.length ≤ 1000) (ok : ∀ g ∈ gs, GOk g) : C.f_season_text [.ref s] h = .ok (.str (txt gs)) h := by
  have hs' := onIns_at (α := D) hs
  have ho : isOwn (isOf 45) (.ref s) h = some true := by simp [isOwn, tyD, hs, sea, isOf]
  simp [C.f_season_text, ho, hs', e_text_of_games hl ok]
theorem txt_ne {gs : List Gm} (hne : gs ≠ []) (ok : ∀ g ∈ gs, GOk g) : txt gs ≠ "-" := by
  intro e
  have h1 : 58 ∈ TL.tl (txt gs) := by
    unfold txt
    rw [if_neg (by simpa using hne)]
    obtain ⟨g, r, rfl⟩ := List.exists_cons_of_ne_nil hne
    have hg := ok g (by simp)
    have hgl := hg.ne
    have h2 : 58 ∈ TL.tl (lineOf g) := by
      cases g with
      | nil => simp at hgl
      | cons p g =>
        have h3 : 58 ∈ TL.tl (wd p) := by rw [wd_tl]; simp
        unfold lineOf
        rw [TL.join_eq, TL.tl_join]
        cases g with
        | nil => exact h3
        | cons q g => exact List.mem_append_left _ h3
    rw [TL.join_eq, TL.tl_join]
    cases r with
    | nil => exact h2
    | cons q r => exact List.mem_append_left _ h2
  rw [e] at h1
  exact absurd h1 (by decide +kernel)
theorem txt_split {gs : List Gm} (hne : gs ≠ []) (ok : ∀ g ∈ gs, GOk g) : Txt.split (txt gs) "\n" = gs.map lineOf := by
  unfold txt
  rw [if_neg (by simpa using hne)]
  refine TL.split_join (s := 10) (S := []) rfl (by decide +kernel) (by simpa using hne) ?_
  intro p hp
  obtain ⟨g, hg, rfl⟩ := List.mem_map.mp hp
  exact line_no (ok g hg)
theorem strOk_iff {x : Str} : PySem.PyData.strOk x = true ↔ ∀ c ∈ TL.tl x, c < 0x110000 := by
  obtain ⟨⟨l⟩⟩ := x
  simp [PySem.PyData.strOk, TL.tl]
theorem txt_ok {gs : List Gm} (ok : ∀ g ∈ gs, GOk g) : PySem.PyData.strOk (txt gs) = true := by
  refine strOk_iff.mpr fun c hc => ?_
  unfold txt at hc
  split at hc
  · revert c
    decide +kernel
  · rcases join_mem hc with h | ⟨p, hp, h⟩
    · exact (strOk_iff (x := "\n")).mp (by decide +kernel) c h
    · obtain ⟨g, hg, rfl⟩ := List.mem_map.mp hp
      rcases join_mem h with h | ⟨p, hp, h⟩
      · exact (strOk_iff (x := " ")).mp (by decide +kernel) c h
      · obtain ⟨q, hq, rfl⟩ := List.mem_map.mp hp
        have w := (ok g hg).w q hq
        rw [wd_tl] at h
        rcases List.mem_append.mp h with h | h
        · exact strOk_iff.mp (strOk_players _ w.nm) c h
        · rcases List.mem_append.mp h with h | h
          · simp at h; subst h; decide
          · exact strOk_iff.mp (pf w.lo w.hi).2.2.2.2.1 c h
theorem e_games_told {gs : List Gm} (hl : gs.length ≤ 200) (ok : ∀ g ∈ gs, GOk g) : C.f_games_told [.str (txt gs), .int 200] h = .ok (.tup (gs.map dG)) h := by
  have hl' : gs.length ≤ 1000 := by omega
  have hz := small hl'
  have hx : (txt gs).length + 2 ≤ sizeLine := by
    have := txt_len hl' ok
    rw [sizeLine_eq]
    omega
  have en : gNeX (.str (txt gs)) (.str "-") h = some (.bl (!gs.isEmpty), h) := by
    rw [neX_str (txt_ok ok) (by decide +kernel)]
    by_cases hb : gs = []
    · subst hb; rfl
    · simp [txt_ne hb ok, hb]
  have e5 : ∀ g ∈ gs, ∀ v w : D, lcL [some (.str (txt gs)), some (.int 200), some v, none, some w, none, none] (tgName 5) mYes (mCall 1 C.f_result_told (mCons (mVar 5) mNil)) (g.map fun p => D.str (wd p)) h = .ok (g.map dP) h := fun g hg v w => by
    refine lcL_map _ _ _ fun p hp => ?_
    rw [lc1_of rfl]
    simp [e_result_told ((ok g hg).w p hp)]
  have e4 : ∀ v : D, lcL [some (.str (txt gs)), some (.int 200), some v, none, none, none, none] (tgName 4) mYes (mCB cTuple (mCons (mLc [5] (mItm itsA (mBM "str" fSplit (mVar 4) (mCons (mC (.str " ")) mNil))) (tgName 5) mYes (mCall 1 C.f_result_told (mCons (mVar 5) mNil))) mNil)) (gs.map fun g => D.str (lineOf g)) h = .ok (gs.map dG) h := fun v => by
    refine lcL_map _ _ _ fun g hg => ?_
    have hz1 : (lineOf g).length + 2 ≤ sizeLine := small (by have := line_len (ok g hg); omega)
    have hz2 := small (n := g.length) (by have := (ok g hg).le; omega)
    have h2 : fSplit (.str (lineOf g)) [.str " "] h = some (.lst (g.map fun p => .str (wd p)), h) := by
      simp only [fSplit]
      rw [if_pos ⟨by decide +kernel, hz1⟩, line_split (ok g hg), List.map_map]
      rfl
    rw [lc1_of rfl]
    simp [h2, hz2, e5 g hg, dG]
  have e6 : ∀ v w : D, lcL [some (.str (txt gs)), some (.int 200), some v, some w, none, none, none] (tgName 6) mYes (mCall 1 C.f_is_game (mCons (mVar 6) mNil)) (gs.map dG) h = .ok (gs.map fun _ => .bl true) h := fun v w => by
    refine lcL_map _ _ _ fun g hg => ?_
    rw [lc1_of rfl]
    simp [e_is_game (ok g hg)]
  have ha := v_all (h := h) (fun _ : Gm => true) gs
  have hlen : (gs.length : Int) ≤ 200 := by omega
  by_cases hb : gs = []
  · subst hb
    have e40 := fun v => e4 v
    simp only [List.map_nil] at e40 e6 ha
    simp [C.f_games_told, en, e40, e6, ha]
  · have h2 : fSplit (.str (txt gs)) [.str "\n"] h = some (.lst (gs.map fun g => .str (lineOf g)), h) := by
      simp only [fSplit]
      rw [if_pos ⟨by decide +kernel, hx⟩, txt_split hb ok, List.map_map]
      rfl
    simp [C.f_games_told, en, hb, h2, hz, e4, e6, ha, hlen]
theorem e_read_season {gs : List Gm} (hl : gs.length ≤ 200) (ok : ∀ g ∈ gs, GOk g) : C.f_read_season [.str (txt gs)] h = .ok (.tup (gs.map dG)) h := by
  have ec : C.f_check_told [.tup (gs.map dG), .str (txt gs)] h = .ok .non h := by simp [C.f_check_told]
  simp [C.f_read_season, e_games_told hl ok, ec]
end
end ML
set_option Elab.async false
set_option linter.all false
set_option maxRecDepth 100000
set_option maxHeartbeats 2000000
set_option autoImplicit false
namespace K80
open PySem PySem.Spec PyProof.Rows L2 ML
section
variable {h : MH}
theorem e_players : C.f__law_players [] h = .ok (.lst (players.map .str)) h := by
  have z : (7 : Nat) ≤ sizeLine := small (by decide)
  simp [C.f__law_players, players, z]
theorem cut_take {α : Type} (l : List α) {v : Int} (h0 : 0 ≤ v) : cutL l none (some v) = l.take v.toNat := by
  have e := HT.sIx_nat l.length l.length v.toNat
  rw [Int.toNat_of_nonneg h0] at e
  unfold cutL
  rw [HT.sIx_none, List.drop_zero, Nat.sub_zero, e]
  by_cases hc : v.toNat ≤ l.length
  · rw [Nat.min_eq_left hc]
  · rw [Nat.min_eq_right (by omega), List.take_of_length_le (Nat.le_refl _), List.take_of_length_le (by omega)]
theorem al2_games : ∀ {names : List Str} {ys : List D}, Al2 (fun (x y : D) => ∃ (n : Str) (p : Int), x = D.str n ∧ y = dP (n, p) ∧ -99 ≤ p ∧ p ≤ 99) (names.map D.str) ys → ∃ g : Gm, ys = g.map dP ∧ g.map (·.1) = names ∧ ∀ p ∈ g, -99 ≤ p.2 ∧ p.2 ≤ 99
  | [], ys, a => by
    cases a
    exact ⟨[], rfl, rfl, by simp⟩
  | n :: names, ys, a => by
    cases a with
    | cons r a =>
      obtain ⟨n', p, e1, rfl, h0, h1⟩ := r
      cases e1
      obtain ⟨g, rfl, e2, hb⟩ := al2_games a
      refine ⟨(n, p) :: g, rfl, by simp [e2], fun q hq => ?_⟩
      rcases List.mem_cons.mp hq with rfl | hq
      · exact ⟨h0, h1⟩
      · exact hb q hq
theorem strs_of_perm {ys : List D} {ns : List Str} (hp : ys.Perm (ns.map .str)) : ∃ ms : List Str, ys = ms.map .str ∧ ms.Perm ns := by
  have key : ∀ ys : List D, (∀ y ∈ ys, ∃ n, y = .str n) → ∃ ms : List Str, ys = ms.map .str := by
    intro ys
    induction ys with
    | nil => exact fun _ => ⟨[], rfl⟩
    | cons y ys ih =>
      intro H
      obtain ⟨n, rfl⟩ := H y (by simp)
      obtain ⟨ms, rfl⟩ := ih fun z hz => H z (by simp [hz])
      exact ⟨n :: ms, rfl⟩
  obtain ⟨ms, rfl⟩ := key ys fun y hy => by
    obtain ⟨n, _, rfl⟩ := List.mem_map.mp (hp.mem_iff.mp hy)
    exact ⟨n, rfl⟩
  refine ⟨ms, rfl, ?_⟩
  have := hp.map (fun d => match d with | .str x => x | _ => Str.empty)
  simpa [List.map_map, Function.comp_def] using this
theorem set_set_len {h : MH} {m : Nat} {o : Ob} : (h.set m o).length = h.length := by simp
theorem get_set {h : MH} {m : Nat} {o o2 : Ob} (hm : h[m]? = some o) : (h.set m o2)[m]? = some o2 := List.getElem?_set_self (List.getElem?_eq_some_iff.mp hm).1
theorem e_game {m : Nat} {o : Ob} (hm : h[m]? = some o) (ho : Ml o) (hf : flat h = true) : ∃ g o', f__law_game [.ref m] h = .ok (dG g) (h.set m o') ∧ Ml o' ∧ GOk g := by
  have hlt : m < h.length := (List.getElem?_eq_some_iff.mp hm).1
  obtain ⟨ys, o1, hp, e1, ho1⟩ := e_shuffled (t := .lst (players.map .str)) (.inl rfl) hm ho hf (lowAll_iff.mpr fun d hd => by
    obtain ⟨n, _, rfl⟩ := List.mem_map.mp hd
    rfl) (by decide)
  obtain ⟨ms, rfl, hms⟩ := strs_of_perm hp
  obtain ⟨v, o2, e2, v0, v1, ho2⟩ := e_grind (get_set hm) ho1 (show (0 : Int) < 5 by decide)
  rw [List.set_set] at e2
  obtain ⟨hi, o3, hhi, e3, ho3⟩ := e_among (xs := [.int 2, .int 4, .int 100]) (t := .lst [.int 2, .int 4, .int 100]) (.inl rfl) (get_set (o2 := o2) hm) ho2 (by simp)
  rw [List.set_set] at e3
  obtain ⟨k, rfl, hk0, hk1⟩ : ∃ k : Int, hi = .int k ∧ 0 < k ∧ k ≤ 100 := by
    simp at hhi
    rcases hhi with rfl | rfl | rfl
    · exact ⟨2, rfl, by decide, by decide⟩
    · exact ⟨4, rfl, by decide, by decide⟩
    · exact ⟨100, rfl, by decide, by decide⟩
  have hcut : cutL (ms.map D.str) none (some (1 + v)) = (ms.take (1 + v).toNat).map D.str := by
    rw [cut_take _ (by omega), List.map_take]
  generalize hnm : ms.take (1 + v).toNat = names at hcut
  have hl7 : ms.length = 7 := hms.length_eq
  have hnl : names.length = (1 + v).toNat := by
    rw [← hnm, List.length_take]
    omega
  obtain ⟨ys, h', e4, ⟨o4, rfl, ho4⟩, hal⟩ := lcL_ex (ds0 := [some (.ref m), some (.lst (names.map D.str)), some (.int k), none]) (mg := tgName 3) (mt := mYes) (me := mTup (mCons (mVar 3) (mCons (mBin gMul (mCall 2 C.f__law_grind (mCons (mVar 0) (mCons (mVar 2) mNil))) (mCall 2 C.f__law_among (mCons (mVar 0) (mCons (mLst (mCons (mC (.int 1)) (mCons (mC (.int 1)) (mCons (mNeg (mC (.int 1))) mNil)))) mNil)))) mNil)))
    (fun s => ∃ o, s = h.set m o ∧ Ml o) (fun (x y : D) => ∃ (n : Str) (p : Int), x = D.str n ∧ y = dP (n, p) ∧ -99 ≤ p ∧ p ≤ 99) (names.map D.str) (h.set m o3) (fun x hx s ⟨o, hs, ho⟩ => by
      subst hs
      obtain ⟨n, _, rfl⟩ := List.mem_map.mp hx
      obtain ⟨w, p1, f1, w0, w1, hp1⟩ := e_grind (get_set (o2 := o) hm) ho hk0
      rw [List.set_set] at f1
      obtain ⟨u, p2, hu, f2, hp2⟩ := e_among (xs := [.int 1, .int 1, .int (-1)]) (t := .lst [.int 1, .int 1, .int (-1)]) (.inl rfl) (get_set (o2 := p1) hm) hp1 (by simp)
      rw [List.set_set] at f2
      obtain ⟨sg, rfl, hsg⟩ : ∃ sg : Int, u = .int sg ∧ (sg = 1 ∨ sg = -1) := by
        simp at hu
        rcases hu with rfl | rfl
        · exact ⟨1, rfl, .inl rfl⟩
        · exact ⟨-1, rfl, .inr rfl⟩
      have hs64 : small64 sg = true := by rcases hsg with rfl | rfl <;> decide
      refine ⟨dP (n, w * sg), _, ?_, ⟨p2, rfl, hp2⟩, n, w * sg, rfl, rfl, ?_, ?_⟩
      · rw [lc1_of rfl]
        simp [f1, f2, hs64, three_le, two_le, dP]
      · rcases hsg with rfl | rfl <;> omega
      · rcases hsg with rfl | rfl <;> omega) ⟨o3, rfl, ho3⟩
  obtain ⟨g, rfl, hgn, hgb⟩ := al2_games hal
  refine ⟨g, o4, ?_, ho4, ?_⟩
  · have hz : names.length ≤ sizeLine := small (by omega)
    simp [f__law_game, e_players, e1, e2, hcut, e3, three_le, hz, e4, dG]
  · have nd : names.Nodup := by
      rw [← hnm]
      exact ((hms.nodup_iff).mpr (by decide +kernel)).sublist (List.take_sublist _ _)
    have hgl : g.length = names.length := by rw [← hgn, List.length_map]
    refine ⟨by rw [hgn]; exact nd, by omega, by omega, fun p hp => ?_, fun p hp => (hgb p hp).1, fun p hp => (hgb p hp).2⟩
    have h1 : p.1 ∈ names := hgn ▸ List.mem_map.mpr ⟨p, hp, rfl⟩
    rw [← hnm] at h1
    exact hms.mem_iff.mp (List.mem_of_mem_take h1)
end
end K80
set_option Elab.async false
set_option linter.all false
set_option maxRecDepth 100000
set_option maxHeartbeats 2000000
set_option autoImplicit false
namespace K80
open PySem PySem.Spec PyProof.Rows L2 ML
section
variable {h : MH}
theorem e_pairs_names {ds : Sl} {g : Gm} (me : ME) (i j : Nat) (hds : ∀ (a b : D), me ((ds.set i (some a)).set j (some b)) h = .ok a h) : lcL ds (tgTup 2 (tgCons (tgName i) (tgCons (tgName j) tgNil))) mYes me (g.map dP) h = .ok ((g.map (·.1)).map .str) h := by
  have := lcL_map (ds0 := ds) (mg := tgTup 2 (tgCons (tgName i) (tgCons (tgName j) tgNil))) (mt := mYes) (me := me) (h := h) dP (fun p => D.str p.1) g fun p _ => by
    rw [lc1_of rfl]
    simp [hds]
  rw [this, List.map_map]
  rfl
theorem gnames_ok {g : Gm} (ok : GOk g) : ∀ m ∈ g.map (·.1), PySem.PyData.strOk m = true ∧ m.length ≤ sizeLine := fun m hm => by
  obtain ⟨p, hp, rfl⟩ := List.mem_map.mp hm
  exact ⟨strOk_players _ (ok.nm p hp), small (by have := (nfa (ok.nm p hp)).1; omega)⟩
theorem g_small {g : Gm} (ok : GOk g) : g.length ≤ sizeLine := small (by have := ok.le; omega)
theorem in_gnames {g : Gm} (ok : GOk g) {n : Str} (hn : n ∈ players) : gIn (.str n) (.lst ((g.map (·.1)).map .str)) h = some (.bl (has n g), h) := by
  show (inD _ _ _).map _ = _
  rw [in_names (strOk_players n hn) (gnames_ok ok) (by rw [List.length_map]; exact g_small ok)]
  have : decide (n ∈ g.map (·.1)) = has n g := by
    cases hb : has n g with
    | true => simpa using has_iff.mp hb
    | false =>
      have : ¬ n ∈ g.map (·.1) := fun z => by rw [has_iff.mpr z] at hb; cases hb
      simpa using this
  rw [this]; rfl
theorem e_counted {t : D} {gs : List Gm} (ht : isSeq t gs) (hl : gs.length ≤ 1000) (ok : ∀ g ∈ gs, GOk g) {n : Str} (hn : n ∈ players) : f__law_counted [t, .str n] h = .ok (.tup [.int (tot gs n), .int (won gs n).length, .int (own gs n).length]) h := by
  have e1 : lcL [some t, some (.str n), none, none, none, none, none] (tgName 4) (mTb (mBin gIn (mVar 1) (mLc [5, 6] (mItm itsA (mVar 4)) (tgTup 2 (tgCons (tgName 5) (tgCons (tgName 6) tgNil))) mYes (mVar 5)))) (mCB cDict (mCons (mVar 4) mNil)) (gs.map dG) h = .ok ((own gs n).map dicG) h := by
    refine lcL_flt _ _ _ _ fun g hg => ?_
    have e0 := e_pairs_names (h := h) (ds := [some t, some (.str n), none, none, some (dG g), none, none]) (g := g) (mVar 5) 5 6 fun a b => by simp
    rw [lc1_of rfl]
    have hz := g_small (ok g hg)
    simp only [dG] at e0
    have hd := v_dict (h := h) (ok g hg).nd
    simp only [dG] at hd
    have hi := in_gnames (h := h) (ok g hg) hn
    simp only [List.map_map] at e0 hi
    simp [dG, hz, e0, hd, hi]
    cases has n g <;> simp
  have e2 : ∀ v : D, lcL [some t, some (.str n), some v, none, none, none, none] (tgName 4) (mTb (mBin gEqX (mCB cMax (mCons (mLc [5] (mItm itsA (mCB cList (mCons (mVar 4) mNil))) (tgName 5) mYes (mBin gIx (mVar 4) (mVar 5))) mNil)) (mBin gIx (mVar 4) (mVar 1)))) (mVar 4) ((own gs n).map dicG) h = .ok ((won gs n).map dicG) h := fun v => by
    refine lcL_flt _ _ _ _ fun g hg => ?_
    have gok := ok g (own_sub g hg)
    have hh := own_has g hg
    have el : cList [dicG g] h = some (.lst (g.map fun p => .str p.1), h) := by
      show some (D.lst ((g.map fun p => (.inr p.1 : Key)).map dK), h) = _
      rw [List.map_map]; rfl
    have e3 : lcL [some t, some (.str n), some v, none, some (dicG g), none, none] (tgName 5) mYes (mBin gIx (mVar 4) (mVar 5)) (g.map fun p => D.str p.1) h = .ok (g.map fun p => .int p.2) h := by
      refine lcL_map _ _ _ fun p hp => ?_
      rw [lc1_of rfl]
      simp [v_ixG (has_iff.mpr (List.mem_map.mpr ⟨p, hp, rfl⟩)), pts_of gok.nd p hp]
    have em := v_max (h := h) (fun p : Str × Int => p.2) (has_ne hh)
    rw [lc1_of rfl]
    simp [el, g_small gok, e3, em, v_ixG hh]
    by_cases hc : pts g n = maxI (g.map (·.2))
    · simp [hc]
    · have : ¬ maxI (g.map (·.2)) = pts g n := fun z => hc z.symm
      simp [hc, this]
  have e4 : ∀ v w : D, lcL [some t, some (.str n), some v, some w, none, none, none] (tgName 4) mYes (mBin gIx (mVar 4) (mVar 1)) ((own gs n).map dicG) h = .ok ((own gs n).map fun g => .int (pts g n)) h := fun v w => by
    refine lcL_map _ _ _ fun g hg => ?_
    rw [lc1_of rfl]
    simp [v_ixG (own_has g hg)]
  have hz := small hl
  have hz2 := small (Nat.le_trans (own_len (gs := gs) (n := n)) hl)
  simp [f__law_counted, ht.its, hz, e1, hz2, e2, e4, three_le, tot]
theorem both_eq (gs : List Gm) (n m : Str) : gs.filter (fun g => has n g && has m g) = both gs n m := by
  unfold both own
  rw [List.filter_filter]
  congr 1
  funext g
  rw [Bool.and_comm]
theorem beats_eq (gs : List Gm) (n : Str) : psort.filter (beat gs n) = beats gs n := by
  unfold beats nms
  rw [List.filter_filter]
  apply List.filter_congr
  intro m hm
  cases hb : beat gs n m with
  | false => simp
  | true =>
    unfold beat at hb
    simp only [Bool.and_eq_true, Bool.not_eq_true', decide_eq_false_iff_not] at hb
    obtain ⟨_, hne, _⟩ := hb
    cases hq : both gs n m with
    | nil => rw [hq] at hne; simp at hne
    | cons g r =>
      have hg : g ∈ both gs n m := by rw [hq]; simp
      obtain ⟨h1, h2⟩ := List.mem_filter.mp hg
      simp only [Bool.true_and]
      exact (List.any_eq_true.mpr ⟨g, own_sub g h1, h2⟩).symm
theorem sorted_players : cSortedX [.lst (players.map .str)] h = some (.lst (psort.map .str), h) := by
  have h1 : strsOf (players.map D.str) = some players := by
    have := strs_map (fun x : Str => x) players
    simpa using this
  have h2 : intsOf (players.map D.str) = none := rfl
  have h3 : sortS players = psort := by
    have hp : psort.Perm players := (List.perm_ext_iff_of_nodup psort_nodup (by decide +kernel)).2 fun n => psort_mem n
    have q1 : (sortS players).Pairwise (fun a b => sle a b = true) := List.pairwise_mergeSort (le := sle) (fun a b c => sle_trans) sle_total players
    exact (((List.mergeSort_perm _ _).trans hp.symm).eq_of_pairwise (fun a b _ _ h1 h2 => sle_antisymm h1 h2) q1 psort_sorted)
  have h4 : cSorted [.lst (players.map .str)] h = some (.lst (psort.map .str), h) := by
    have : sortedL (players.map D.str) = some (psort.map .str) := by
      unfold sortedL
      rw [h2, h1]
      simp only [h3]
      rfl
    simp only [cSorted, dicOf, lstOf, Option.bind_some, this]
  simp only [cSortedX, orC, h4]
theorem e_beaten_law {t : D} {gs : List Gm} (ht : isSeq t gs) (hl : gs.length ≤ 1000) (ok : ∀ g ∈ gs, GOk g) {n : Str} (hn : n ∈ players) (hf : flat h = true) : f__law_beaten [t, .str n] h = .ok (.tup ((beats gs n).map .str)) h := by
  have hz := small hl
  obtain ⟨ds', h', e, done, a, b, c, hh, hdone, eds⟩ := forL_invM (mg := tgName 3) (b := mSeq (mSet 4 (mLc [5] (mItm itsA (mVar 0)) (tgName 5) (mAndT (mTb (mBin gIn (mVar 1) (mCB cDict (mCons (mVar 5) mNil)))) (mTb (mBin gIn (mVar 3) (mCB cDict (mCons (mVar 5) mNil))))) (mCB cDict (mCons (mVar 5) mNil)))) (mIfS (mAndT (mTb (mBin gNeX (mVar 3) (mVar 1))) (mAndT (mTb (mBin gNeX (mVar 4) (mLst mNil))) (mTr (mCB cAll (mCons (mLc [5] (mItm itsA (mVar 4)) (tgName 5) mYes (mBin gGt (mBin gIx (mVar 5) (mVar 1)) (mBin gIx (mVar 5) (mVar 3)))) mNil))))) (mExpr (mBM "list" fAppend (mVar 2) (mCons (mVar 3) mNil))) mNext))
    D.str (fun L ds s => ∃ (done : List Str) (a b c : Option D), s = h ++ [.lst ((done.filter (beat gs n)).map .str)] ∧ done ++ L = psort ∧ ds = [some t, some (.str n), some (.ref h.length), a, b, c])
    (fun m L ds s ⟨done, a, b, c, hs, hd, eds⟩ => by
      subst hs eds
      have hm : m ∈ players := (psort_mem m).mp (by rw [← hd]; simp)
      refine ⟨_, _, rfl, ?_⟩
      generalize hstore : h ++ [Ob.lst ((done.filter (beat gs n)).map .str)] = st
      have hat : st[h.length]? = some (.lst ((done.filter (beat gs n)).map .str)) := by
        rw [← hstore, List.getElem?_append_right (Nat.le_refl _)]
        simp
      have e1 : lcL [some t, some (.str n), some (.ref h.length), some (.str m), b, none] (tgName 5) (mAndT (mTb (mBin gIn (mVar 1) (mCB cDict (mCons (mVar 5) mNil)))) (mTb (mBin gIn (mVar 3) (mCB cDict (mCons (mVar 5) mNil))))) (mCB cDict (mCons (mVar 5) mNil)) (gs.map dG) st = .ok ((both gs n m).map dicG) st := by
        rw [← both_eq]
        refine lcL_flt _ _ _ _ fun g hg => ?_
        rw [lc1_of rfl]
        have hd := v_dict (h := st) (ok g hg).nd
        simp [hd]
        cases has n g <;> cases has m g <;> simp [hd]
      have e2 : lcL [some t, some (.str n), some (.ref h.length), some (.str m), some (.lst ((both gs n m).map dicG)), none] (tgName 5) mYes (mBin gGt (mBin gIx (mVar 5) (mVar 1)) (mBin gIx (mVar 5) (mVar 3))) ((both gs n m).map dicG) st = .ok ((both gs n m).map fun g => .bl (decide (pts g m < pts g n))) st := by
        refine lcL_map _ _ _ fun g hg => ?_
        obtain ⟨h1, h2⟩ := List.mem_filter.mp hg
        rw [lc1_of rfl]
        simp [v_ixG (own_has g h1), v_ixG h2]
      have hz2 : (both gs n m).length ≤ sizeLine := small (Nat.le_trans (List.length_filter_le (has m) (own gs n)) (Nat.le_trans (own_len (gs := gs) (n := n)) hl))
      have hdl : (done.filter (beat gs n)).length < sizeLine := by
        have h1 := List.length_filter_le (beat gs n) done
        have h2 : done.length + (L.length + 1) = 7 := by
          have := congrArg List.length hd
          rw [List.length_append, List.length_cons] at this
          exact this
        have := small (n := 8) (by decide)
        omega
      have happ := v_fAppend_res (h := st) (.str m) hat (by rw [List.length_map]; exact hdl)
      have hset : st.set h.length (.lst ((done.filter (beat gs n)).map .str ++ [.str m])) = h ++ [Ob.lst ((done.filter (beat gs n)).map .str ++ [.str m])] := by
        rw [← hstore, List.set_append_right _ _ (Nat.le_refl _)]
        simp
      rw [hset] at happ
      have hna := strOk_players n hn
      have hma := strOk_players m hm
      refine ⟨[some t, some (.str n), some (.ref h.length), some (.str m), some (.lst ((both gs n m).map dicG)), c], h ++ [Ob.lst (((done ++ [m]).filter (beat gs n)).map .str)], .inl ?_, done ++ [m], _, _, _, rfl, by rw [← hd]; simp, rfl⟩
      have hfil : (done ++ [m]).filter (beat gs n) = done.filter (beat gs n) ++ if beat gs n m then [m] else [] := by
        rw [List.filter_append, List.filter_cons]
        rfl
      have hbeat : beat gs n m = (!decide (n = m) && (!(both gs n m).isEmpty && (both gs n m).all fun g => decide (pts g m < pts g n))) := rfl
      have ha := v_all (h := st) (fun g : Gm => decide (pts g m < pts g n)) (both gs n m)
      have ety := v_isTy_ref hat
      simp [ht.its, hz, e1, neX_str hma hna, ne_dics, hz2]
      by_cases hc : n = m
      · have hbf : beat gs n m = false := by rw [hbeat]; simp [hc]
        subst hc
        simp [hfil, hbf, hstore]
      · have hc' : ¬ m = n := fun z => hc z.symm
        by_cases hb : both gs n m = []
        · have hbf : beat gs n m = false := by rw [hbeat]; simp [hb]
          simp [hc', hb, hfil, hbf, hstore]
        · have hb2 : (both gs n m).isEmpty = false := by simpa using hb
          cases hall : (both gs n m).all (fun g => decide (pts g m < pts g n)) with
          | true =>
            have hbf : beat gs n m = true := by rw [hbeat, hall, hb2]; simp [hc]
            rw [hall] at ha
            simp [hc', hb, e2, hz2, ha, hfil, hbf, ety, happ]
          | false =>
            have hbf : beat gs n m = false := by rw [hbeat, hall]; simp
            rw [hall] at ha
            simp [hc', hb, e2, hz2, ha, hfil, hbf, hstore])
    psort [some t, some (.str n), some (.ref h.length), none, none, none] (h ++ [.lst []]) ⟨[], none, none, none, rfl, rfl, rfl⟩
  rw [List.append_nil] at hdone
  subst hdone hh eds
  rw [beats_eq] at e
  have hat : (h ++ [Ob.lst ((beats gs n).map D.str)])[h.length]? = some (.lst ((beats gs n).map .str)) := by
    rw [List.getElem?_append_right (Nat.le_refl _)]
    simp
  have efn : mFn 2 6 (mSeq (mSet 2 (mLstN mNil)) (mSeq (mFor (mItm itsA (mCB cSortedX (mCons (mCall 0 C.f__law_players mNil) mNil))) (tgName 3) (mSeq (mSet 4 (mLc [5] (mItm itsA (mVar 0)) (tgName 5) (mAndT (mTb (mBin gIn (mVar 1) (mCB cDict (mCons (mVar 5) mNil)))) (mTb (mBin gIn (mVar 3) (mCB cDict (mCons (mVar 5) mNil))))) (mCB cDict (mCons (mVar 5) mNil)))) (mIfS (mAndT (mTb (mBin gNeX (mVar 3) (mVar 1))) (mAndT (mTb (mBin gNeX (mVar 4) (mLst mNil))) (mTr (mCB cAll (mCons (mLc [5] (mItm itsA (mVar 4)) (tgName 5) mYes (mBin gGt (mBin gIx (mVar 5) (mVar 1)) (mBin gIx (mVar 5) (mVar 3)))) mNil))))) (mExpr (mBM "list" fAppend (mVar 2) (mCons (mVar 3) mNil))) mNext))) (mRet (mCB cTuple (mCons (mVar 2) mNil))))) [t, .str n] h = .ok (.tup ((beats gs n).map .str)) (h ++ [Ob.lst ((beats gs n).map .str)]) := by
    simp [e_players, sorted_players, e, v_tuple_ref hat]
  have := trim_ok efn (by
    simp only [D.low]
    refine lowAll_iff.mpr fun d hd => ?_
    obtain ⟨m, _, rfl⟩ := List.mem_map.mp hd
    rfl) (by simp) (by rw [List.take_append_of_le_length (Nat.le_refl _), List.take_of_length_le (Nat.le_refl _)]; exact hf)
  rw [List.take_append_of_le_length (Nat.le_refl _), List.take_of_length_le (Nat.le_refl _)] at this
  exact this
end
end K80
set_option Elab.async false
set_option linter.all false
set_option maxRecDepth 100000
set_option maxHeartbeats 2000000
set_option autoImplicit false
namespace K80
open PySem PySem.Spec PyProof.Rows L2 ML
section
variable {h : MH}
theorem catL_map {α : Type} (f : α → List D) : ∀ xs : List α, catL (xs.map fun x => .lst (f x)) = some (xs.flatMap f)
  | [] => rfl
  | x :: xs => by simp [catL, catL_map f xs]
theorem keysD_str : ∀ xs : List Str, keysD (xs.map .str) = some (xs.map .inr)
  | [] => rfl
  | x :: xs => by simp [keysD, keyD?, keysD_str xs]
theorem intsOf_lst {α : Type} (f : α → List D) {xs : List α} (hne : xs ≠ []) : intsOf (xs.map fun x => .lst (f x)) = none := by
  cases xs with
  | nil => exact absurd rfl hne
  | cons x xs => rfl
theorem sum_lists {α : Type} (f : α → List D) (xs : List α) (hl : (xs.flatMap f).length ≤ sizeLine) : cSumX [.lst (xs.map fun x => .lst (f x)), .lst []] h = some (.lst (xs.flatMap f), h) := by
  have : cSum [.lst (xs.map fun x => .lst (f x)), .lst []] h = none := rfl
  simp only [cSumX, orC, this, cSum2, lstOf, Option.bind_some, catL_map, List.nil_append, hl, if_true]
theorem flat_names (gs : List Gm) : gs.flatMap (fun g => (g.map (·.1)).map D.str) = (gs.flatMap fun g => g.map (·.1)).map .str := by
  induction gs with
  | nil => rfl
  | cons g gs ih => rw [List.flatMap_cons, List.flatMap_cons, List.map_append, ih]
theorem flat_len {gs : List Gm} (ok : ∀ g ∈ gs, GOk g) : (gs.flatMap fun g => g.map (·.1)).length ≤ gs.length * 8 := by
  induction gs with
  | nil => simp
  | cons g gs ih =>
    have h1 := ih fun x hx => ok x (by simp [hx])
    have h2 := (ok g (by simp)).le
    simp only [List.flatMap_cons, List.length_append, List.length_map, List.length_cons, Nat.succ_mul]
    omega
theorem e_sorted_names {gs : List Gm} (hl : gs.length ≤ 100) (ok : ∀ g ∈ gs, GOk g) : cSortedU [.lst ((gs.flatMap fun g => g.map (·.1)).map .str)] h = some (.lst ((nms gs).map .str), h) := by
  have h1 := flat_len ok
  have h2 := nms_eq ok (xs := dd (gs.flatMap fun g => g.map (·.1))) dd_nodup fun n => by
    rw [dd_mem, List.mem_flatMap]
  simp only [cSortedU, lstOf, Option.bind_some, keysD_str, sortedU, keyStrs_inr, h2]
  rw [if_pos]
  rw [List.length_map]
  have : scanBound = 4096 := rfl
  omega
theorem e_standing_law {gs : List Gm} (hl : gs.length ≤ 100) (ok : ∀ g ∈ gs, GOk g) : f__law_standing [.lst (gs.map dG)] h = .ok (.tup ((stand gs).map (row3 gs))) h := by
  have ht : isSeq (.lst (gs.map dG)) gs := .inl rfl
  have hl' : gs.length ≤ 1000 := by omega
  have hz := small hl'
  have e1 : lcL [some (.lst (gs.map dG)), none, none, none, none, none, none] (tgName 5) mYes (mLc [3, 6] (mItm itsA (mVar 5)) (tgTup 2 (tgCons (tgName 3) (tgCons (tgName 6) tgNil))) mYes (mVar 3)) (gs.map dG) h = .ok (gs.map fun g => .lst ((g.map (·.1)).map .str)) h := by
    refine lcL_map _ _ _ fun g hg => ?_
    have e0 := e_pairs_names (h := h) (ds := [some (.lst (gs.map dG)), none, none, none, none, some (dG g), none]) (g := g) (mVar 3) 3 6 fun a b => by simp
    rw [lc1_of rfl]
    have hz := g_small (ok g hg)
    simp only [dG] at e0
    simp only [List.map_map] at e0
    simp [dG, hz, e0]
  have e2 := sum_lists (h := h) (fun g : Gm => (g.map (·.1)).map D.str) gs (by
    rw [flat_names, List.length_map]
    have := flat_len ok
    exact small (by omega))
  rw [flat_names] at e2
  have e3 := e_sorted_names (h := h) hl ok
  have e4 : ∀ n ∈ players, f__law_counted [.lst (gs.map dG), .str n] h = .ok (.tup [.int (tot gs n), .int (won gs n).length, .int (own gs n).length]) h := fun n hn => e_counted ht hl' ok hn
  have a0 : ∀ a b c : D, atI [a, b, c] 0 = some a := fun _ _ _ => rfl
  have e5 : ∀ v : D, lcL [some (.lst (gs.map dG)), some v, none, none, none, none, none] (tgName 3) mYes (mTup (mCons (mBin gSub (mC (.int 0)) (mBin gIx (mCall 2 f__law_counted (mCons (mVar 0) (mCons (mVar 3) mNil))) (mC (.int 0)))) (mCons (mVar 3) mNil))) ((nms gs).map .str) h = .ok ((nms gs).map (pr gs)) h := fun v => by
    refine lcL_map _ _ _ fun n hn => ?_
    rw [lc1_of rfl]
    simp [e4 n (nms_players hn), a0, two_le, pr]
  have e6 := sortX_tup (h := h) (l := (nms gs).map (pr gs)) (fun d hd => by
    obtain ⟨n, _, rfl⟩ := List.mem_map.mp hd
    exact ⟨_, _, rfl⟩) (sortOk_pr gs)
  rw [sortD_pr] at e6
  have c2 : ∀ a b c : D, cutL [a, b, c] none (some 2) = [a, b] := fun _ _ _ => rfl
  have e7 : ∀ v w : D, lcL [some (.lst (gs.map dG)), some v, some w, none, none, none, none] (tgTup 2 (tgCons (tgName 4) (tgCons (tgName 3) tgNil))) mYes (mBin gAdd (mTup (mCons (mVar 3) mNil)) (mSl (mCall 2 f__law_counted (mCons (mVar 0) (mCons (mVar 3) mNil))) mNoPart (mPart (mC (.int 2))))) ((stand gs).map (pr gs)) h = .ok ((stand gs).map (row3 gs)) h := fun v w => by
    refine lcL_map _ _ _ fun n hn => ?_
    rw [lc1_of rfl]
    simp [pr, one_le, e4 n (nms_players (stand_mem.mp hn)), c2, three_le, row3]
  have z1 := small (n := (stand gs).length) (by have := stand_len gs; omega)
  generalize (gs.flatMap fun g => g.map (·.1)) = NN at e2 e3
  simp only [List.map_map] at e1 e2
  simp [f__law_standing, hz, e1, e2, e3, nms_small, e5, e6, z1, e7]
theorem e_text_law {gs : List Gm} (hl : gs.length ≤ 1000) (ok : ∀ g ∈ gs, GOk g) : f__law_text_of [.lst (gs.map dG)] h = .ok (.str (txt gs)) h := by
  have hz := small hl
  have e2 : ∀ g ∈ gs, lcL [some (.lst (gs.map dG)), none, some (.tup (g.map dP)), none, none] (tgTup 2 (tgCons (tgName 3) (tgCons (tgName 4) tgNil))) mYes (mBin gAdd (mBin gAdd (mVar 3) (mC (.str ":"))) (mCB cStr (mCons (mVar 4) mNil))) (g.map dP) h = .ok (g.map fun p => .str (wd p)) h := fun g hg => by
    refine lcL_map _ _ _ fun p hp => ?_
    have w := (ok g hg).w p hp
    have h1 := (nfa w.nm).1
    have h2 := (pf w.lo w.hi).1
    have h3 := (pf w.lo w.hi).2.2.2.2.2
    have hc : (":" : Str).length = 1 := by decide +kernel
    have hla : (p.1 ++ ":").length = p.1.length + 1 := by
      rw [TL.len_tl, TL.tl_append, List.length_append, ← TL.len_tl, ← TL.len_tl, hc]
    have s1 : p.1.length + (":" : Str).length ≤ sizeLine := small (by omega)
    have s2 : (p.1 ++ ":").length + (istr p.2).length ≤ sizeLine := small (by omega)
    rw [lc1_of rfl]
    simp [s1, s2, h3, wd]
  have e1 : lcL [some (.lst (gs.map dG)), none, none, none, none] (tgName 2) mYes (mBM "str" fJoin (mC (.str " ")) (mCons (mLc [3, 4] (mItm itsA (mVar 2)) (tgTup 2 (tgCons (tgName 3) (tgCons (tgName 4) tgNil))) mYes (mBin gAdd (mBin gAdd (mVar 3) (mC (.str ":"))) (mCB cStr (mCons (mVar 4) mNil)))) mNil)) (gs.map dG) h = .ok (gs.map fun g => .str (lineOf g)) h := by
    refine lcL_map _ _ _ fun g hg => ?_
    have gok := ok g hg
    have hj : (g.map fun p => (wd p).length).sum + g.length * (" " : Str).length ≤ 16777216 := by
      have h1 : (" " : Str).length = 1 := by decide +kernel
      have h2 := sum_len (f := fun p => (wd p).length) (k := 11) (l := g) fun p hp => wd_len (gok.w p hp)
      have := gok.le
      rw [h1]
      omega
    have e3 := join_of (h := h) (" " : Str) wd g hj
    rw [lc1_of rfl]
    simp [dG, g_small gok, e2 g hg, e3, lineOf]
  have hj : (gs.map fun g => (lineOf g).length).sum + gs.length * ("\n" : Str).length ≤ 16777216 := by
    have h1 : ("\n" : Str).length = 1 := by decide +kernel
    have h2 := sum_len (f := fun g => (lineOf g).length) (k := 96) (l := gs) fun g hg => line_len (ok g hg)
    rw [h1]
    omega
  have e4 := join_of (h := h) ("\n" : Str) lineOf gs hj
  have hg : good 1 (.lst (gs.map fun g => D.str (lineOf g))) = true := by
    simp only [good, Bool.and_eq_true, decide_eq_true_eq, List.all_eq_true, List.length_map]
    refine ⟨hz, fun d hd => ?_⟩
    obtain ⟨g, hg, rfl⟩ := List.mem_map.mp hd
    have h1 : (lineOf g).length ≤ sizeLine := small (by have := line_len (ok g hg); omega)
    have h2 : PySem.PyData.strOk (lineOf g) = true := by
      have := txt_ok (gs := [g]) fun x hx => by rw [List.mem_singleton.mp hx]; exact ok g hg
      unfold txt at this
      rw [if_neg (by simp)] at this
      have e : Txt.join "\n" ([g].map lineOf) = lineOf g := by rw [TL.join_eq]; rfl
      rw [e] at this
      exact this
    simp [good, h1, h2]
  have e5 : gNeX (.lst (gs.map fun g => D.str (lineOf g))) (.lst []) h = some (.bl (!gs.isEmpty), h) := by
    rw [neX_of (by rw [view_lst]; exact eqOk_good hg (by decide)) (by rw [view_lst]; rfl), view_lst, view_lst, eqD_nilL]
    simp
  unfold txt
  cases hb : gs.isEmpty <;> simp [f__law_text_of, hz, e1, e5, hb, e4]
/-- a name that did not play -/
theorem unknown_of {act : MH → Res D} {n : Str} (ha : act h = unk n h) (hn : n ∈ players) : mFnA 1 3 (b__law_is_unknown act) [.str n] h = .ok (.bl true) h := by
  have hs := strOk_players n hn
  have hl : tc_UnknownName.lookup 24 = some true := by decide
  unfold unk at ha
  rw [x_FnA, if_pos (show [D.str n].length = 1 from rfl)]
  simp only [b__law_is_unknown, x_Seq, x_Try, x_Expr, x_Act, ha, lift_exc]
  rw [tried_exc _ _ _ (by exact hl) (by simp)]
  have hk : ([("given", D.str n)] : List (Str × D)).lookup ("given" : Str) = some (.str n) := by rw [List.lookup_cons, beq_self_eq_true]
  simp [hk, eqX_str hs hs]
end
end K80
set_option Elab.async false
set_option linter.all false
set_option maxRecDepth 100000
set_option maxHeartbeats 2000000
set_option autoImplicit false
namespace K80
open PySem PySem.Spec PyProof.Rows L2 ML
section
variable {h : MH}
theorem perm1 (x : D) : permL [0] [x] = [x] := rfl
def uCall (mb : ME) : ME := mCallA (fun act => mFnA 1 3 (b__law_is_unknown act)) mb (mCons (mVar 3) mNil)
theorem u_of {mb : ME} {ds : Sl} {n : Str} (e : ds[3]? = some (some (.str n))) (ha : mb ds h = unk n h) (hn : n ∈ players) : uCall mb ds h = .ok (.bl true) h := by
  unfold uCall
  rw [x_CallA]
  simp only [x_Cons, x_Nil, x_Var, e, slotR_some, Res.bind_ok]
  exact unknown_of (act := fun h2 => mb ds h2) ha hn
theorem mk_meth {s : Nat} {gs : List Gm} {ds : Sl} {n : Str} {x : Str} {m : List D → MH → Res D} (hs : h[s]? = some (sea gs)) (e0 : ds[0]? = some (some (.ref s))) (e3 : ds[3]? = some (some (.str n))) (hx : ([("kept", .tup (gs.map dG))] : List (Str × D)).lookup x = none) : mMethK 45 1 2 [0] x m (mVar 0) (mCons (mVar 3) mNil) ds h = m [.ref s, .str n] h := by
  have hs' := onIns_at (α := D) hs
  simp [e0, e3, hs', hx, perm1]
theorem mk_meth1 {s : Nat} {gs : List Gm} {ds : Sl} {n : Str} {x : Str} {m : List D → MH → Res D} (hs : h[s]? = some (sea gs)) (e0 : ds[0]? = some (some (.ref s))) (e3 : ds[3]? = some (some (.str n))) (hx : ([("kept", .tup (gs.map dG))] : List (Str × D)).lookup x = none) : mMeth 45 2 x m (mVar 0) (mCons (mVar 3) mNil) ds h = m [.ref s, .str n] h := by
  have hs' := onIns_at (α := D) hs
  simp [e0, e3, hs', hx]
theorem get_app {h e : MH} {s : Nat} {o : Ob} (hs : h[s]? = some o) : (h ++ e)[s]? = some o := by
  rw [List.getElem?_append_left (List.getElem?_eq_some_iff.mp hs).1]; exact hs
theorem stand_str {gs : List Gm} : ∀ m ∈ stand gs, PySem.PyData.strOk m = true ∧ m.length ≤ sizeLine := fun m hm => nms_str m (stand_mem.mp hm)
theorem stand_small {gs : List Gm} : (stand gs).length ≤ sizeLine := small (by have := stand_len gs; omega)
theorem good_strs {l : List Str} (H : ∀ m ∈ l, PySem.PyData.strOk m = true ∧ m.length ≤ sizeLine) (hl : l.length ≤ sizeLine) : good 1 (.tup (l.map .str)) = true := by
  simp only [good, Bool.and_eq_true, decide_eq_true_eq, List.all_eq_true, List.length_map]
  refine ⟨hl, fun d hd => ?_⟩
  obtain ⟨m, hm, rfl⟩ := List.mem_map.mp hd
  simp [good, H m hm]
theorem good_stand (gs : List Gm) : good 2 (.tup ((stand gs).map (row3 gs))) = true := by
  simp only [good, Bool.and_eq_true, decide_eq_true_eq, List.all_eq_true, List.length_map]
  refine ⟨stand_small, fun d hd => ?_⟩
  obtain ⟨m, hm, rfl⟩ := List.mem_map.mp hd
  simp [good, row3, stand_str m hm, three_le]
theorem good_txt {gs : List Gm} (hl : gs.length ≤ 1000) (ok : ∀ g ∈ gs, GOk g) : good 0 (.str (txt gs)) = true := by
  have h1 : (txt gs).length ≤ sizeLine := by
    have := txt_len hl ok
    rw [sizeLine_eq]
    omega
  simp [good, txt_ok ok, h1]
theorem beats_str {gs : List Gm} {n : Str} : ∀ m ∈ beats gs n, PySem.PyData.strOk m = true ∧ m.length ≤ sizeLine := fun m hm => nms_str m (List.mem_filter.mp hm).1
theorem beats_small {gs : List Gm} {n : Str} : (beats gs n).length ≤ sizeLine := Nat.le_trans (List.length_filter_le _ _) nms_small
theorem four_le : (4 : Nat) ≤ sizeLine := small (by decide)
def rightBody : MS := (mSeq (mIfS (mTb (mBin gNotIn (mVar 3) (mVar 2))) (mSeq (mSet 4 (mLstN (mCons (uCall (mMethK 45 1 2 [0] "total" C.f_Season_total (mVar 0) (mCons (mVar 3) mNil))) mNil))) (mSeq (mExpr (mBM "list" fAppend (mVar 4) (mCons (uCall (mMeth 45 2 "wins" C.f_Season_wins (mVar 0) (mCons (mVar 3) mNil))) mNil))) (mSeq (mExpr (mBM "list" fAppend (mVar 4) (mCons (uCall (mMethK 45 1 2 [0] "games" C.f_Season_games (mVar 0) (mCons (mVar 3) mNil))) mNil))) (mSeq (mExpr (mBM "list" fAppend (mVar 4) (mCons (uCall (mMethK 45 1 2 [0] "beaten" C.f_Season_beaten (mVar 0) (mCons (mVar 3) mNil))) mNil))) (mSeq (mIfS (mTb (mBin gNeX (mVar 4) (mBin gMul (mLst (mCons (mC (.bl true)) mNil)) (mC (.int 4))))) (mRet (mC (.bl false))) mNext) mCont))))) mNext) (mSeq (mSet 4 (mLst (mCons (mMeth 45 2 "total" C.f_Season_total (mVar 0) (mCons (mVar 3) mNil)) (mCons (mMethK 45 1 2 [0] "wins" C.f_Season_wins (mVar 0) (mCons (mVar 3) mNil)) (mCons (mMeth 45 2 "games" C.f_Season_games (mVar 0) (mCons (mVar 3) mNil)) (mCons (mMeth 45 2 "beaten" C.f_Season_beaten (mVar 0) (mCons (mVar 3) mNil)) mNil)))))) (mIfS (mNotT (mTr (mCall 2 (C.f__law_is_that 6) (mCons (mVar 4) (mCons (mBin gAdd (mCB cList (mCons (mCall 2 f__law_counted (mCons (mVar 1) (mCons (mVar 3) mNil))) mNil)) (mLst (mCons (mCall 2 f__law_beaten (mCons (mVar 1) (mCons (mVar 3) mNil))) mNil))) mNil))))) (mRet (mC (.bl false))) mNext)))
theorem right_turn {s : Nat} {gs : List Gm} {st : MH} {n : Str} {b : Option D} (hs : st[s]? = some (sea gs)) (hf : flat st = true) (hl : gs.length ≤ 100) (ok : ∀ g ∈ gs, GOk g) (hn : n ∈ players) :
    ∃ ds2 h2, (rightBody [some (.ref s), some (.lst (gs.map dG)), some (.lst ((stand gs).map .str)), some (.str n), b, none, none] st = .next ds2 h2 ∨ rightBody [some (.ref s), some (.lst (gs.map dG)), some (.lst ((stand gs).map .str)), some (.str n), b, none, none] st = .cont ds2 h2) ∧
      ∃ ext b', h2 = st ++ ext ∧ flat ext = true ∧ ds2 = [some (.ref s), some (.lst (gs.map dG)), some (.lst ((stand gs).map .str)), some (.str n), b', none, none] := by
  have hl' : gs.length ≤ 1000 := by omega
  have hni : gNotIn (.str n) (.lst ((stand gs).map .str)) st = some (.bl (!decide (n ∈ stand gs)), st) := by
    show (inD _ _ _).map _ = _
    rw [in_names (strOk_players n hn) stand_str stand_small]
    rfl
  by_cases hm : n ∈ nms gs
  · have hm' : n ∈ stand gs := stand_mem.mpr hm
    refine ⟨[some (.ref s), some (.lst (gs.map dG)), some (.lst ((stand gs).map .str)), some (.str n), some (.lst [.int (tot gs n), .int (won gs n).length, .int (own gs n).length, .tup ((beats gs n).map .str)]), none, none], st, .inl ?_, [], some (.lst [.int (tot gs n), .int (won gs n).length, .int (own gs n).length, .tup ((beats gs n).map .str)]), (List.append_nil _).symm, rfl, rfl⟩
    have ds0 : ∀ b : Option D, ([some (.ref s), some (.lst (gs.map dG)), some (.lst ((stand gs).map .str)), some (.str n), b, none, none] : Sl)[0]? = some (some (.ref s)) := fun _ => rfl
    have ds3 : ∀ b : Option D, ([some (.ref s), some (.lst (gs.map dG)), some (.lst ((stand gs).map .str)), some (.str n), b, none, none] : Sl)[3]? = some (some (.str n)) := fun _ => rfl
    have m1 := mk_meth1 (m := C.f_Season_total) hs (ds0 b) (ds3 b) (nf2 _)
    have m2 := mk_meth (m := C.f_Season_wins) hs (ds0 b) (ds3 b) (nf3 _)
    have m3 := mk_meth1 (m := C.f_Season_games) hs (ds0 b) (ds3 b) (nf4 _)
    have m4 := mk_meth1 (m := C.f_Season_beaten) hs (ds0 b) (ds3 b) (nf5 _)
    rw [e_total hs hl' ok hn, if_pos hm] at m1
    rw [e_wins hs hl' ok hn, if_pos hm] at m2
    rw [e_games hs hl' ok hn, if_pos hm] at m3
    rw [e_beaten hs hl' ok hn, if_pos hm] at m4
    have hg : good 5 (.lst [.int (tot gs n), .int (won gs n).length, .int (own gs n).length, .tup ((beats gs n).map .str)]) = true := by
      have := good_mono (m := 4) (by decide) (good_strs (beats_str (gs := gs) (n := n)) beats_small)
      simp [good, four_le] at this ⊢
      exact this
    have hthat := e_is_that (h := st) hg
    have hc := e_counted (h := st) (t := .lst (gs.map dG)) (.inl rfl) hl' ok hn
    have hb := e_beaten_law (h := st) (t := .lst (gs.map dG)) (.inl rfl) hl' ok hn hf
    unfold rightBody
    simp only [x_Seq, x_IfS, x_Tb, x_Bin, x_Var, List.getElem?_cons_succ, List.getElem?_cons_zero, slotR_some, Res.bind_ok, hni, hm', decide_true, Bool.not_true, Res.of_some, v_onBl, lift_ok, Bool.false_eq_true, if_false, x_Next, nxt_next, x_Set, x_Lst, x_Cons, x_Nil, m1, m2, m3, m4]
    simp [four_le, hc, hb, three_le, one_le, hthat]
  · have hm' : n ∉ stand gs := fun z => hm (stand_mem.mp z)
    have ue : ∀ (ext : MH) (b : Option D) (mb : ME), mb [some (.ref s), some (.lst (gs.map dG)), some (.lst ((stand gs).map .str)), some (.str n), b, none, none] (st ++ ext) = unk n (st ++ ext) → uCall mb [some (.ref s), some (.lst (gs.map dG)), some (.lst ((stand gs).map .str)), some (.str n), b, none, none] (st ++ ext) = .ok (.bl true) (st ++ ext) := fun ext b mb ha => u_of rfl ha hn
    have m1 : ∀ (ext : MH) (b : Option D), uCall (mMethK 45 1 2 [0] "total" C.f_Season_total (mVar 0) (mCons (mVar 3) mNil)) [some (.ref s), some (.lst (gs.map dG)), some (.lst ((stand gs).map .str)), some (.str n), b, none, none] (st ++ ext) = .ok (.bl true) (st ++ ext) := fun ext b => by
      refine ue ext b _ ?_
      rw [mk_meth (m := C.f_Season_total) (get_app hs) rfl rfl (nf2 _), e_total (get_app hs) hl' ok hn, if_neg hm]
    have m2 : ∀ (ext : MH) (b : Option D), uCall (mMeth 45 2 "wins" C.f_Season_wins (mVar 0) (mCons (mVar 3) mNil)) [some (.ref s), some (.lst (gs.map dG)), some (.lst ((stand gs).map .str)), some (.str n), b, none, none] (st ++ ext) = .ok (.bl true) (st ++ ext) := fun ext b => by
      refine ue ext b _ ?_
      rw [mk_meth1 (m := C.f_Season_wins) (get_app hs) rfl rfl (nf3 _), e_wins (get_app hs) hl' ok hn, if_neg hm]
    have m3 : ∀ (ext : MH) (b : Option D), uCall (mMethK 45 1 2 [0] "games" C.f_Season_games (mVar 0) (mCons (mVar 3) mNil)) [some (.ref s), some (.lst (gs.map dG)), some (.lst ((stand gs).map .str)), some (.str n), b, none, none] (st ++ ext) = .ok (.bl true) (st ++ ext) := fun ext b => by
      refine ue ext b _ ?_
      rw [mk_meth (m := C.f_Season_games) (get_app hs) rfl rfl (nf4 _), e_games (get_app hs) hl' ok hn, if_neg hm]
    have m4 : ∀ (ext : MH) (b : Option D), uCall (mMethK 45 1 2 [0] "beaten" C.f_Season_beaten (mVar 0) (mCons (mVar 3) mNil)) [some (.ref s), some (.lst (gs.map dG)), some (.lst ((stand gs).map .str)), some (.str n), b, none, none] (st ++ ext) = .ok (.bl true) (st ++ ext) := fun ext b => by
      refine ue ext b _ ?_
      rw [mk_meth (m := C.f_Season_beaten) (get_app hs) rfl rfl (nf5 _), e_beaten (get_app hs) hl' ok hn, if_neg hm]
    have m10 := m1 [] b
    rw [List.append_nil] at m10
    have at1 : ∀ l : List D, (st ++ [Ob.lst l])[st.length]? = some (.lst l) := fun l => by
      rw [List.getElem?_append_right (Nat.le_refl _)]; simp
    have set1 : ∀ l l' : List D, (st ++ [Ob.lst l]).set st.length (.lst l') = st ++ [Ob.lst l'] := fun l l' => by
      rw [List.set_append_right _ _ (Nat.le_refl _)]; simp
    have app : ∀ l : List D, l.length < 5 → fAppend (.ref st.length) [.bl true] (st ++ [Ob.lst l]) = some (.non, st ++ [Ob.lst (l ++ [.bl true])]) := fun l hl => by
      rw [v_fAppend_res _ (at1 l) (by have := small (n := 6) (by decide); omega), set1]
    have hne : ∀ l : List D, l = [.bl true, .bl true, .bl true, .bl true] → gNeX (.ref st.length) (.lst l) (st ++ [Ob.lst l]) = some (.bl false, st ++ [Ob.lst l]) := fun l e => by
      subst e
      have hv := view_ref (at1 [.bl true, .bl true, .bl true, .bl true])
      rw [neX_of (by rw [hv]; rfl) (by rw [view_lst]; rfl), hv, view_lst]
      rfl
    refine ⟨[some (.ref s), some (.lst (gs.map dG)), some (.lst ((stand gs).map .str)), some (.str n), some (.ref st.length), none, none], st ++ [Ob.lst [.bl true, .bl true, .bl true, .bl true]], .inr ?_, [Ob.lst [.bl true, .bl true, .bl true, .bl true]], _, rfl, rfl, rfl⟩
    have hmul : gMul (.lst [.bl true]) (.int 4) (st ++ [Ob.lst [.bl true, .bl true, .bl true, .bl true]]) = some (.lst [.bl true, .bl true, .bl true, .bl true], st ++ [Ob.lst [.bl true, .bl true, .bl true, .bl true]]) := by
      rw [v_mulL, if_pos ⟨by decide, by decide, four_le⟩]
      rfl
    have a1 := app [.bl true] (by decide)
    have a2 := app [.bl true, .bl true] (by decide)
    have a3 := app [.bl true, .bl true, .bl true] (by decide)
    simp only [List.cons_append, List.nil_append] at a1 a2 a3
    unfold rightBody
    simp only [x_Seq, x_IfS, x_Tb, x_Bin, x_Var, List.getElem?_cons_succ, List.getElem?_cons_zero, slotR_some, Res.bind_ok, hni, hm', decide_false, Bool.not_false, Res.of_some, v_onBl, lift_ok, if_true, x_Set, x_LstN, x_Cons, x_Nil, m10, List.length_cons, List.length_nil, Nat.zero_add, one_le, List.set_cons_succ, List.set_cons_zero, nxt_next, x_Expr, x_BM, v_isTy_ref (at1 _), m2, m3, m4, a1, a2, a3, x_Lst, x_C, hmul, hne _ rfl, Bool.false_eq_true, if_false, x_Next, x_Cont, nxt_cont]
theorem right_eq : f__law_season_right = mFnT 2 7 (mSeq (mSet 2 (mLc [3, 5, 6] (mItm itsA (mCall 1 f__law_standing (mCons (mVar 1) mNil))) (tgTup 3 (tgCons (tgName 3) (tgCons (tgName 5) (tgCons (tgName 6) tgNil)))) mYes (mVar 3))) (mSeq (mFor (mItm itsA (mCall 0 C.f__law_players mNil)) (tgName 3) rightBody) (mSeq (mSet 4 (mLst (mCons (mMeth 45 1 "standing" C.f_Season_standing (mVar 0) mNil) (mCons (mCallK 0 1 1 [0] C.f_season_text mNil (mCons (mVar 0) mNil)) (mCons (mCallK 0 1 1 [0] C.f_read_season mNil (mCons (mCall 1 C.f_season_text (mCons (mVar 0) mNil)) mNil)) mNil))))) (mRet (mCall 2 (C.f__law_is_that 6) (mCons (mVar 4) (mCons (mLst (mCons (mCall 1 f__law_standing (mCons (mVar 1) mNil)) (mCons (mCall 1 f__law_text_of (mCons (mVar 1) mNil)) (mCons (mCB cTuple (mCons (mVar 1) mNil)) mNil)))) mNil))))))) := rfl
theorem e_right {s : Nat} {gs : List Gm} (hs : h[s]? = some (sea gs)) (hf : flat h = true) (hl : gs.length ≤ 100) (ok : ∀ g ∈ gs, GOk g) : f__law_season_right [.ref s, .lst (gs.map dG)] h = .ok (.bl true) h := by
  have hl' : gs.length ≤ 1000 := by omega
  have e1 := e_standing_law (h := h) hl ok
  have e2 : lcL [some (.ref s), some (.lst (gs.map dG)), none, none, none, none, none] (tgTup 3 (tgCons (tgName 3) (tgCons (tgName 5) (tgCons (tgName 6) tgNil)))) mYes (mVar 3) ((stand gs).map (row3 gs)) h = .ok ((stand gs).map .str) h := by
    refine lcL_map _ _ _ fun n _ => ?_
    rw [lc1_of rfl]
    simp
  obtain ⟨ds', h', e, ext, a, b, rfl, hext, eds⟩ := forL_invM (mg := tgName 3) (b := rightBody) D.str (fun L ds st => ∃ ext a b, st = h ++ ext ∧ flat ext = true ∧ ds = [some (.ref s), some (.lst (gs.map dG)), some (.lst ((stand gs).map .str)), a, b, none, none] ∧ ∀ n ∈ L, n ∈ players)
    (fun n L ds st ⟨ext, a, b, hst, hext, eds, hL⟩ => by
      subst hst eds
      obtain ⟨ds2, h2, h3, ext', b', rfl, hext', rfl⟩ := right_turn (b := b) (get_app (e := ext) hs) (by rw [flat_append, hf, hext]; rfl) hl ok (hL n (by simp))
      exact ⟨_, _, rfl, _, _, h3, ext ++ ext', _, b', by rw [List.append_assoc], by rw [flat_append, hext, hext']; rfl, rfl, fun m hm => hL m (by simp [hm])⟩)
    players [some (.ref s), some (.lst (gs.map dG)), some (.lst ((stand gs).map .str)), none, none, none, none] h ⟨[], none, none, (List.append_nil _).symm, rfl, rfl, fun n hn => hn⟩
  have hs2 : (h ++ ext)[s]? = some (sea gs) := get_app hs
  obtain ⟨rfl, _⟩ := eds
  have e3 := e_standing (h := h ++ ext) hs2 hl' ok
  have e4 := e_season_text (h := h ++ ext) hs2 hl' ok
  have e5 := e_read_season (h := h ++ ext) (gs := gs) (by omega) ok
  have e6 := e_standing_law (h := h ++ ext) hl ok
  have e7 := e_text_law (h := h ++ ext) hl' ok
  have hs' := onIns_at (α := D) hs2
  have hg : good 5 (.lst [.tup ((stand gs).map (row3 gs)), .str (txt gs), .tup (gs.map dG)]) = true := by
    have g1 := good_mono (m := 4) (by decide) (good_stand gs)
    have g2 := good_mono (m := 4) (by decide) (good_txt hl' ok)
    have g3 : good 4 (.tup (gs.map dG)) = true := good_mono (by decide) (good_kep hl' ok)
    simp only [good, Bool.and_eq_true, decide_eq_true_eq, List.all_eq_true, List.length_cons, List.length_nil]
    refine ⟨three_le, fun d hd => ?_⟩
    simp only [List.mem_cons, List.mem_nil_iff, or_false] at hd
    rcases hd with rfl | rfl | rfl
    · exact g1
    · exact g2
    · exact g3
  have hthat := e_is_that (h := h ++ ext) hg
  rw [right_eq]
  have := trim_ok (n := 2) (N := 7) (l := [.ref s, .lst (gs.map dG)]) (h := h) (h' := h ++ ext) (d := .bl true) (body := (mSeq (mSet 2 (mLc [3, 5, 6] (mItm itsA (mCall 1 f__law_standing (mCons (mVar 1) mNil))) (tgTup 3 (tgCons (tgName 3) (tgCons (tgName 5) (tgCons (tgName 6) tgNil)))) mYes (mVar 3))) (mSeq (mFor (mItm itsA (mCall 0 C.f__law_players mNil)) (tgName 3) rightBody) (mSeq (mSet 4 (mLst (mCons (mMeth 45 1 "standing" C.f_Season_standing (mVar 0) mNil) (mCons (mCallK 0 1 1 [0] C.f_season_text mNil (mCons (mVar 0) mNil)) (mCons (mCallK 0 1 1 [0] C.f_read_season mNil (mCons (mCall 1 C.f_season_text (mCons (mVar 0) mNil)) mNil)) mNil))))) (mRet (mCall 2 (C.f__law_is_that 6) (mCons (mVar 4) (mCons (mLst (mCons (mCall 1 f__law_standing (mCons (mVar 1) mNil)) (mCons (mCall 1 f__law_text_of (mCons (mVar 1) mNil)) (mCons (mCB cTuple (mCons (mVar 1) mNil)) mNil)))) mNil)))))))) (by
      simp [e1, stand_small, e2, e_players, e, hs', e3, e4, e5, perm1, three_le, e6, e7, hthat]) rfl (by simp) (by rw [List.take_append_of_le_length (Nat.le_refl _), List.take_of_length_le (Nat.le_refl _)]; exact hf)
  rw [List.take_append_of_le_length (Nat.le_refl _), List.take_of_length_le (Nat.le_refl _)] at this
  exact this
end
end K80
set_option Elab.async false
set_option linter.all false
set_option maxRecDepth 100000
set_option maxHeartbeats 2000000
set_option autoImplicit false
namespace K80
open PySem PySem.Spec PyProof.Rows L2 ML
section
variable {h : MH}
theorem get_mid {st r : MH} {a : Ob} : (st ++ (a :: r))[st.length]? = some a := by
  rw [List.getElem?_append_right (Nat.le_refl _)]; simp
theorem get_mid1 {st r : MH} {a b : Ob} : (st ++ (a :: b :: r))[st.length + 1]? = some b := by
  rw [List.getElem?_append_right (by omega)]; simp
theorem get_mid2 {st r : MH} {a b c : Ob} : (st ++ (a :: b :: c :: r))[st.length + 2]? = some c := by
  rw [List.getElem?_append_right (by omega)]; simp
theorem get_mid3 {st r : MH} {a b c d : Ob} : (st ++ (a :: b :: c :: d :: r))[st.length + 3]? = some d := by
  rw [List.getElem?_append_right (by omega)]; simp
theorem get_mid4 {st r : MH} {a b c d e : Ob} : (st ++ (a :: b :: c :: d :: e :: r))[st.length + 4]? = some e := by
  rw [List.getElem?_append_right (by omega)]; simp
theorem set_mid {st r : MH} {a x : Ob} : (st ++ (a :: r)).set st.length x = st ++ (x :: r) := by
  rw [List.set_append_right _ _ (Nat.le_refl _)]; simp
theorem set_mid1 {st r : MH} {a b x : Ob} : (st ++ (a :: b :: r)).set (st.length + 1) x = st ++ (a :: x :: r) := by
  rw [List.set_append_right _ _ (by omega)]; simp
theorem flat_two {st : MH} {o : Ob} {gs : List Gm} (hf : flat st = true) (ho : Ml o) : flat (st ++ [o, sea gs]) = true := by
  rw [flat_append, hf]
  simp [flat, ho.low, sea_low]
theorem e_make : mMake 45 1 C.f_Season_init mNil = fun (_ : Sl) (h : MH) => Res.ok (.ref h.length) (h ++ [sea []]) := by
  funext ds h
  have hat : (h ++ [Ob.ins 45 []])[h.length]? = some (.ins 45 []) := by
    rw [List.getElem?_append_right (Nat.le_refl _)]; simp
  have hs' := onIns_at (α := D) hat
  have hset : (h ++ [Ob.ins 45 []]).set h.length (.ins 45 [("kept", .tup [])]) = h ++ [sea []] := by
    rw [List.set_append_right _ _ (Nat.le_refl _)]; simp [sea]
  simp [C.f_Season_init, hs', putD, hset]
theorem e_none_of {s : Nat} (hs : h[s]? = some (sea [])) : f__law_has_none [.ref s] h = .ok (.bl true) h := by
  have hs' := onIns_at (α := D) hs
  have e := e_undo hs (by simp) (by simp)
  have hl : tc_NothingToUndo.lookup 27 = some true := by decide
  have hk : ([("given", D.int 0)] : List (Str × D)).lookup ("given" : Str) = some (.int 0) := by rw [List.lookup_cons, beq_self_eq_true]
  have en : C.n_f__law_is_that [.int 0, .int 0] h = .ok (.bl true) h := by simp [C.n_f__law_is_that]
  have em : mMeth 45 1 "undo" C.f_Season_undo (mVar 0) mNil [some (.ref s), none] h = .exc ⟨27, [("given", .int 0)]⟩ h := by
    simp [hs', e]
  unfold f__law_has_none
  rw [x_Fn, if_pos (show [D.ref s].length = 1 from rfl)]
  simp only [List.map_cons, List.map_nil, Nat.reduceSub, List.replicate, List.cons_append, List.nil_append, x_Seq, x_Try, x_Expr, em, lift_exc]
  rw [tried_exc _ _ _ (by exact hl) (by simp)]
  simp [hk, en]
theorem e_told {t : D} {gs : List Gm} (ht : isSeq t gs) (hl : gs.length ≤ 100) (ok : ∀ g ∈ gs, GOk g) : f__law_told [t] h = .ok (.ref h.length) (h ++ [sea gs]) := by
  obtain ⟨ds', h', e, done, a, rfl, hd, eds⟩ := forL_invM (mg := tgName 2) (b := mExpr (mMethK 45 1 2 [0] "add" C.f_Season_add (mVar 1) (mCons (mVar 2) mNil))) dG (fun L ds st => ∃ (done : List Gm) (a : Option D), st = h ++ [sea done] ∧ done ++ L = gs ∧ ds = [some t, some (.ref h.length), a])
    (fun g L ds st ⟨done, a, hst, hd, eds⟩ => by
      subst hst eds
      have hat : (h ++ [sea done])[h.length]? = some (sea done) := get_mid
      have hs' := onIns_at (α := D) hat
      have hlen : done.length < 200 := by
        have := congrArg List.length hd
        rw [List.length_append] at this
        omega
      have ea := e_add hat hlen (ok g (by rw [← hd]; simp))
      have hset : (h ++ [sea done]).set h.length (sea (done ++ [g])) = h ++ [sea (done ++ [g])] := set_mid
      rw [hset] at ea
      refine ⟨_, _, rfl, [some t, some (.ref h.length), some (dG g)], h ++ [sea (done ++ [g])], .inl ?_, done ++ [g], _, rfl, by rw [← hd]; simp, rfl⟩
      simp [hs', perm1, ea])
    gs [some t, some (.ref h.length), none] (h ++ [sea []]) ⟨[], none, rfl, rfl, rfl⟩
  rw [List.append_nil] at hd
  subst hd eds
  simp [f__law_told, e_make, ht.its, e]
theorem perm_map_inv {α β : Type} (f : α → β) {ys zs : List β} (hp : ys.Perm zs) : ∀ {l : List α}, zs = l.map f → ∃ l' : List α, ys = l'.map f ∧ l'.Perm l := by
  induction hp with
  | nil => intro l e; exact ⟨l, e, .refl _⟩
  | cons x _ ih =>
    intro l e
    cases l with
    | nil => cases e
    | cons a l =>
      rw [List.map_cons] at e
      injection e with e1 e2
      obtain ⟨l', rfl, hp'⟩ := ih e2
      exact ⟨a :: l', by rw [e1]; rfl, hp'.cons a⟩
  | swap x y r =>
    intro l e
    match l, e with
    | a :: b :: l, e =>
      rw [List.map_cons, List.map_cons] at e
      injection e with e1 e2
      injection e2 with e2 e3
      exact ⟨b :: a :: l, by rw [e1, e2, e3]; rfl, .swap _ _ _⟩
  | trans _ _ ih1 ih2 =>
    intro l e
    obtain ⟨l2, e2, p2⟩ := ih2 e
    obtain ⟨l1, e1, p1⟩ := ih1 e2
    exact ⟨l1, e1, p1.trans p2⟩
theorem sum_perm {l m : List Int} (hp : l.Perm m) : l.sum = m.sum := by
  induction hp with
  | nil => rfl
  | cons x _ ih => rw [List.sum_cons, List.sum_cons, ih]
  | swap x y l => simp only [List.sum_cons]; omega
  | trans _ _ h1 h2 => exact h1.trans h2
theorem tot_perm {gs gs' : List Gm} (hp : gs'.Perm gs) (n : Str) : tot gs' n = tot gs n := sum_perm ((hp.filter _).map _)
theorem won_perm {gs gs' : List Gm} (hp : gs'.Perm gs) (n : Str) : (won gs' n).length = (won gs n).length := ((hp.filter _).filter _).length_eq
theorem nms_perm {gs gs' : List Gm} (hp : gs'.Perm gs) : nms gs' = nms gs := by
  unfold nms
  congr 1
  funext n
  cases hb : gs.any (has n) with
  | true =>
    obtain ⟨g, hg, e⟩ := List.any_eq_true.mp hb
    exact List.any_eq_true.mpr ⟨g, hp.mem_iff.mpr hg, e⟩
  | false =>
    rw [List.any_eq_false] at hb ⊢
    exact fun g hg => hb g (hp.mem_iff.mp hg)
theorem stand_perm {gs gs' : List Gm} (hp : gs'.Perm gs) : (stand gs').map (row3 gs') = (stand gs).map (row3 gs) := by
  have h1 : rk gs' = rk gs := by
    funext a b
    simp only [rk, pr, tot_perm hp]
  have h2 : row3 gs' = row3 gs := by
    funext n
    simp only [row3, tot_perm hp, won_perm hp]
  unfold stand
  rw [nms_perm hp, h1, h2]
theorem own_app (a b : List Gm) (n : Str) : own (a ++ b) n = own a n ++ own b n := List.filter_append ..
theorem tot_app (a b : List Gm) (n : Str) : tot (a ++ b) n = tot a n + tot b n := by
  unfold tot
  rw [own_app, List.map_append, List.sum_append]
theorem won_app (a b : List Gm) (n : Str) : ((won (a ++ b) n).length : Int) = (won a n).length + (won b n).length := by
  unfold won
  rw [own_app, List.filter_append, List.length_append]
  simp
def P0 : MS := (mSet 2 (mCall 2 C.f__law_mill (mCons (mVar 0) (mCons (mVar 1) mNil))))
def P1 : MS := (mPar 6 7 (mMake 45 1 C.f_Season_init mNil) (mLst mNil))
def P2 : MS := (mIfS (mOrT (mNotT (mTr (mCall 1 f__law_has_none (mCons (mVar 6) mNil)))) (mNotT (mTr (mCall 2 f__law_season_right (mCons (mVar 6) (mCons (mVar 7) mNil)))))) (mRet (mC (.bl false))) mNext)
def P3 : MS := (mFor (mArgs rng1 (mCons (mC (.int 9)) mNil)) (tgName 3) (mSeq (mIfS (mAndT (mTb (mBin gNeX (mVar 7) (mLst mNil))) (mTb (mBin gEqX (mCall 2 C.f__law_grind (mCons (mVar 2) (mCons (mC (.int 5)) mNil))) (mC (.int 0))))) (mSeq (mIfS (mTb (mBin gIsNot (mMeth 45 1 "undo" C.f_Season_undo (mVar 6) mNil) (mC .non))) (mRet (mC (.bl false))) mNext) (mSet 7 (mSl (mVar 7) mNoPart (mPart (mNeg (mC (.int 1))))))) (mSeq (mSet 7 (mBin gAdd (mVar 7) (mLst (mCons (mCall 1 f__law_game (mCons (mVar 2) mNil)) mNil)))) (mIfS (mTb (mBin gIsNot (mMeth 45 2 "add" C.f_Season_add (mVar 6) (mCons (mBin gIx (mVar 7) (mNeg (mC (.int 1)))) mNil)) (mC .non))) (mRet (mC (.bl false))) mNext))) (mIfS (mNotT (mTr (mCall 2 f__law_season_right (mCons (mVar 6) (mCons (mVar 7) mNil))))) (mRet (mC (.bl false))) mNext)))
def P4 : MS := (mPar 8 9 (mCall 1 f__law_told (mCons (mCall 1 C.f_read_season (mCons (mCall 1 f__law_text_of (mCons (mVar 7) mNil)) mNil)) mNil)) (mCall 1 f__law_told (mCons (mCall 2 C.f__law_shuffled (mCons (mVar 2) (mCons (mVar 7) mNil))) mNil)))
def P5 : MS := (mIfS (mOrT (mNotT (mTr (mCall 2 (C.f__law_is_that 6) (mCons (mLst (mCons (mMeth 45 1 "standing" C.f_Season_standing (mVar 8) mNil) (mCons (mMeth 45 1 "standing" C.f_Season_standing (mVar 9) mNil) mNil))) (mCons (mBin gMul (mLst (mCons (mMeth 45 1 "standing" C.f_Season_standing (mVar 6) mNil) mNil)) (mC (.int 2))) mNil))))) (mTb (mBin (gEqI 45) (mVar 8) (mVar 6)))) (mRet (mC (.bl false))) mNext)
def P6 : MS := (mSet 4 (mLc [3] (mArgs rng1 (mCons (mC (.int 3)) mNil)) (tgName 3) mYes (mCall 1 f__law_game (mCons (mVar 2) mNil))))
def P7 : MS := (mSet 5 (mCall 1 f__law_told (mCons (mBin gAdd (mVar 7) (mVar 4)) mNil)))
def P8 : MS := (mFor (mItm itsA (mMeth 45 1 "standing" C.f_Season_standing (mVar 5) mNil)) (tgTup 3 (tgCons (tgName 10) (tgCons (tgName 11) (tgCons (tgName 12) tgNil)))) (mSeq (mSet 13 (mLst (mCons (mCall 2 f__law_counted (mCons (mVar 7) (mCons (mVar 10) mNil))) (mCons (mCall 2 f__law_counted (mCons (mVar 4) (mCons (mVar 10) mNil))) mNil)))) (mIfS (mNotT (mTr (mCall 2 (C.f__law_is_that 6) (mCons (mLst (mCons (mVar 11) (mCons (mVar 12) mNil))) (mCons (mLst (mCons (mBin gAdd (mBin gIx (mBin gIx (mVar 13) (mC (.int 0))) (mC (.int 0))) (mBin gIx (mBin gIx (mVar 13) (mC (.int 1))) (mC (.int 0)))) (mCons (mBin gAdd (mBin gIx (mBin gIx (mVar 13) (mC (.int 0))) (mC (.int 1))) (mBin gIx (mBin gIx (mVar 13) (mC (.int 1))) (mC (.int 1)))) mNil))) mNil))))) (mRet (mC (.bl false))) mNext)))
def P9 : MS := (mFor (mArgs rng1 (mCons (mCB cLen (mCons (mVar 7) mNil)) mNil)) (tgName 3) (mExpr (mMeth 45 1 "undo" C.f_Season_undo (mVar 6) mNil)))
def P10 : MS := (mIfS (mOrT (mNotT (mTr (mCall 1 f__law_has_none (mCons (mVar 6) mNil)))) (mNotT (mTr (mCall 2 (C.f__law_is_that 6) (mCons (mMeth 45 1 "standing" C.f_Season_standing (mVar 6) mNil) (mCons (mTup mNil) mNil)))))) (mRet (mC (.bl false))) mNext)
def lapBody : MS := (mSeq P0 (mSeq P1 (mSeq P2 (mSeq P3 (mSeq P4 (mSeq P5 (mSeq P6 (mSeq P7 (mSeq P8 (mSeq P9 P10))))))))))
theorem law_eq : f_law = mFn 1 14 (mSeq (mFor (mItm itsA (mTup (mCons (mC (.int 0)) (mCons (mC (.int 1)) mNil)))) (tgName 1) lapBody) (mRet (mC (.bl true)))) := rfl
abbrev SL (scr : D) (lap x3 x4 x5 x8 x9 x10 x11 x12 x13 : Option D) (m s : Nat) (G : D) : Sl := [some scr, lap, some (.ref m), x3, x4, x5, some (.ref s), some G, x8, x9, x10, x11, x12, x13]
theorem flat_one {st : MH} (hf : flat st = true) {o : Ob} (ho : Ml o) {gs : List Gm} {r : MH} (hr : flat r = true) : flat (st ++ (o :: sea gs :: r)) = true := by
  rw [flat_append, hf]
  have : flat (o :: sea gs :: r) = (o.low 0 && ((sea gs).low 0 && flat r)) := rfl
  rw [this, ho.low, sea_low, hr]
  rfl
/-- a game more -/
theorem more_game {st r : MH} {o : Ob} {gs : List Gm} (hf : flat st = true) (ho : Ml o) (hr : flat r = true) : ∃ g o', f__law_game [.ref st.length] (st ++ (o :: sea gs :: r)) = .ok (dG g) (st ++ (o' :: sea gs :: r)) ∧ Ml o' ∧ GOk g := by
  obtain ⟨g, o', e, ho', gok⟩ := e_game (h := st ++ (o :: sea gs :: r)) get_mid ho (flat_one hf ho hr)
  rw [set_mid] at e
  exact ⟨g, o', e, ho', gok⟩
theorem atI_last {α : Type} (l : List α) (x : α) : atI (l ++ [x]) (-1) = some x := by
  unfold atI ixN
  rw [if_neg (by decide), if_pos (by simp; omega)]
  have : ((-1 : Int) + ((l ++ [x]).length : Nat)).toNat = l.length := by simp; omega
  simp only [Option.bind_some, this]
  rw [List.getElem?_append_right (Nat.le_refl _)]
  simp
def turnBody : MS := (mSeq (mIfS (mAndT (mTb (mBin gNeX (mVar 7) (mLst mNil))) (mTb (mBin gEqX (mCall 2 C.f__law_grind (mCons (mVar 2) (mCons (mC (.int 5)) mNil))) (mC (.int 0))))) (mSeq (mIfS (mTb (mBin gIsNot (mMeth 45 1 "undo" C.f_Season_undo (mVar 6) mNil) (mC .non))) (mRet (mC (.bl false))) mNext) (mSet 7 (mSl (mVar 7) mNoPart (mPart (mNeg (mC (.int 1))))))) (mSeq (mSet 7 (mBin gAdd (mVar 7) (mLst (mCons (mCall 1 f__law_game (mCons (mVar 2) mNil)) mNil)))) (mIfS (mTb (mBin gIsNot (mMeth 45 2 "add" C.f_Season_add (mVar 6) (mCons (mBin gIx (mVar 7) (mNeg (mC (.int 1)))) mNil)) (mC .non))) (mRet (mC (.bl false))) mNext))) (mIfS (mNotT (mTr (mCall 2 f__law_season_right (mCons (mVar 6) (mCons (mVar 7) mNil))))) (mRet (mC (.bl false))) mNext))
theorem P3_eq : P3 = mFor (mArgs rng1 (mCons (mC (.int 9)) mNil)) (tgName 3) turnBody := rfl
theorem turn_ok {st : MH} {o : Ob} {gs : List Gm} {scr : D} {lap x3 x4 x5 x8 x9 x10 x11 x12 x13 : Option D} (hf : flat st = true) (ho : Ml o) (hl : gs.length < 50) (ok : ∀ g ∈ gs, GOk g) :
    ∃ o' gs', turnBody (SL scr lap x3 x4 x5 x8 x9 x10 x11 x12 x13 st.length (st.length + 1) (.lst (gs.map dG))) (st ++ [o, sea gs]) = .next (SL scr lap x3 x4 x5 x8 x9 x10 x11 x12 x13 st.length (st.length + 1) (.lst (gs'.map dG))) (st ++ [o', sea gs']) ∧ Ml o' ∧ (∀ g ∈ gs', GOk g) ∧ gs'.length ≤ gs.length + 1 := by
  have hne := ne_gsL (h := st ++ [o, sea gs]) (by omega) ok
  have game : ∀ o1, Ml o1 → ∃ o' g, Ml o' ∧ GOk g ∧ mSeq (mSet 7 (mBin gAdd (mVar 7) (mLst (mCons (mCall 1 f__law_game (mCons (mVar 2) mNil)) mNil)))) (mIfS (mTb (mBin gIsNot (mMeth 45 2 "add" C.f_Season_add (mVar 6) (mCons (mBin gIx (mVar 7) (mNeg (mC (.int 1)))) mNil)) (mC .non))) (mRet (mC (.bl false))) mNext) (SL scr lap x3 x4 x5 x8 x9 x10 x11 x12 x13 st.length (st.length + 1) (.lst (gs.map dG))) (st ++ [o1, sea gs]) = .next (SL scr lap x3 x4 x5 x8 x9 x10 x11 x12 x13 st.length (st.length + 1) (.lst ((gs ++ [g]).map dG))) (st ++ [o', sea (gs ++ [g])]) := fun o1 ho1 => by
    obtain ⟨g, o2, e, ho2, gok⟩ := more_game (gs := gs) (r := []) hf ho1 rfl
    refine ⟨o2, g, ho2, gok, ?_⟩
    have hz := small (n := gs.length + 1) (by omega)
    have hs' := onIns_at (α := D) (get_mid1 (st := st) (a := o2) (b := sea gs) (r := []))
    have ea := e_add (get_mid1 (st := st) (a := o2) (b := sea gs) (r := [])) (by omega) gok
    rw [set_mid1] at ea
    simp [e, one_le, hz, hs', atI_last, ea]
  have right : ∀ o' gs', Ml o' → (∀ g ∈ gs', GOk g) → gs'.length ≤ 100 → mIfS (mNotT (mTr (mCall 2 f__law_season_right (mCons (mVar 6) (mCons (mVar 7) mNil))))) (mRet (mC (.bl false))) mNext (SL scr lap x3 x4 x5 x8 x9 x10 x11 x12 x13 st.length (st.length + 1) (.lst (gs'.map dG))) (st ++ [o', sea gs']) = .next (SL scr lap x3 x4 x5 x8 x9 x10 x11 x12 x13 st.length (st.length + 1) (.lst (gs'.map dG))) (st ++ [o', sea gs']) := fun o' gs' ho' ok' hl' => by
    have := e_right (h := st ++ [o', sea gs']) (s := st.length + 1) (gs := gs') get_mid1 (flat_one hf ho' rfl) hl' ok'
    simp [this]
  unfold turnBody
  rw [x_Seq, x_IfS]
  by_cases hb : gs = []
  · obtain ⟨o', g, ho', gok, eg⟩ := game o ho
    refine ⟨o', gs ++ [g], ?_, ho', ?_, by simp⟩
    · have ok' : ∀ x ∈ gs ++ [g], GOk x := fun x hx => by
        rcases List.mem_append.mp hx with hx | hx
        · exact ok x hx
        · rw [List.mem_singleton.mp hx]; exact gok
      have c1 : mAndT (mTb (mBin gNeX (mVar 7) (mLst mNil))) (mTb (mBin gEqX (mCall 2 C.f__law_grind (mCons (mVar 2) (mCons (mC (.int 5)) mNil))) (mC (.int 0)))) (SL scr lap x3 x4 x5 x8 x9 x10 x11 x12 x13 st.length (st.length + 1) (.lst (gs.map dG))) (st ++ [o, sea gs]) = .ok false (st ++ [o, sea gs]) := by
        simp only [x_AndT, x_Tb, x_Bin, x_Var, List.getElem?_cons_succ, List.getElem?_cons_zero, slotR_some, Res.bind_ok, x_Lst, x_Nil, List.length_nil, Nat.zero_le, if_true, hne, Res.of_some, v_onBl]
        simp [hb]
      rw [c1, lift_ok]
      simp only [Bool.false_eq_true, if_false]
      rw [eg, nxt_next]
      exact right o' (gs ++ [g]) ho' ok' (by simp; omega)
    · intro x hx
      rcases List.mem_append.mp hx with hx | hx
      · exact ok x hx
      · rw [List.mem_singleton.mp hx]; exact gok
  · obtain ⟨v, o1, eg, v0, v1, ho1⟩ := e_grind (h := st ++ [o, sea gs]) get_mid ho (show (0 : Int) < 5 by decide)
    rw [set_mid] at eg
    have c1 : mAndT (mTb (mBin gNeX (mVar 7) (mLst mNil))) (mTb (mBin gEqX (mCall 2 C.f__law_grind (mCons (mVar 2) (mCons (mC (.int 5)) mNil))) (mC (.int 0)))) (SL scr lap x3 x4 x5 x8 x9 x10 x11 x12 x13 st.length (st.length + 1) (.lst (gs.map dG))) (st ++ [o, sea gs]) = .ok (decide (v = 0)) (st ++ [o1, sea gs]) := by
      have hne' : (!gs.isEmpty) = true := by simpa using hb
      rw [hne'] at hne
      simp only [x_AndT, x_Tb, x_Bin, x_Var, List.getElem?_cons_succ, List.getElem?_cons_zero, slotR_some, Res.bind_ok, x_Lst, x_Nil, List.length_nil, Nat.zero_le, if_true, hne, Res.of_some, v_onBl, x_Call, x_Cons, x_C, List.length_cons, Nat.zero_add, Nat.reduceAdd, eg, eqX_int]
    rw [c1, lift_ok]
    by_cases hv : v = 0
    · have hl2 : gs.dropLast.length ≤ 100 := by rw [List.length_dropLast]; omega
      have ok2 : ∀ g ∈ gs.dropLast, GOk g := fun g hg => ok g (List.dropLast_subset _ hg)
      refine ⟨o1, gs.dropLast, ?_, ho1, ok2, by rw [List.length_dropLast]; omega⟩
      have hs' := onIns_at (α := D) (get_mid1 (st := st) (a := o1) (b := sea gs) (r := []))
      have eu := e_undo (get_mid1 (st := st) (a := o1) (b := sea gs) (r := [])) (by omega) ok
      rw [set_mid1] at eu
      have hbe : gs.isEmpty = false := by simpa using hb
      rw [hbe] at eu
      simp only [Bool.false_eq_true, if_false] at eu
      have e1 : mSeq (mIfS (mTb (mBin gIsNot (mMeth 45 1 "undo" C.f_Season_undo (mVar 6) mNil) (mC .non))) (mRet (mC (.bl false))) mNext) (mSet 7 (mSl (mVar 7) mNoPart (mPart (mNeg (mC (.int 1)))))) (SL scr lap x3 x4 x5 x8 x9 x10 x11 x12 x13 st.length (st.length + 1) (.lst (gs.map dG))) (st ++ [o1, sea gs]) = .next (SL scr lap x3 x4 x5 x8 x9 x10 x11 x12 x13 st.length (st.length + 1) (.lst (gs.dropLast.map dG))) (st ++ [o1, sea gs.dropLast]) := by
        simp [hs', eu, cut_last, List.map_dropLast]
      simp only [hv, decide_true, if_true]
      rw [e1, nxt_next]
      exact right o1 gs.dropLast ho1 ok2 hl2
    · obtain ⟨o', g, ho', gok, eg2⟩ := game o1 ho1
      have ok' : ∀ x ∈ gs ++ [g], GOk x := fun x hx => by
        rcases List.mem_append.mp hx with hx | hx
        · exact ok x hx
        · rw [List.mem_singleton.mp hx]; exact gok
      refine ⟨o', gs ++ [g], ?_, ho', ok', by simp⟩
      simp only [hv, decide_false, Bool.false_eq_true, if_false]
      rw [eg2, nxt_next]
      exact right o' (gs ++ [g]) ho' ok' (by simp; omega)
end
end K80
set_option Elab.async false
set_option linter.all false
set_option maxRecDepth 100000
set_option maxHeartbeats 2000000
set_option autoImplicit false
namespace K80
open PySem PySem.Spec PyProof.Rows L2 ML
section
variable {st : MH} {scr : D} {lap x3 x4 x5 x8 x9 x10 x11 x12 x13 : Option D}
theorem P3_ok {o : Ob} (hf : flat st = true) (ho : Ml o) : ∃ o' gs t, P3 (SL scr lap x3 x4 x5 x8 x9 x10 x11 x12 x13 st.length (st.length + 1) (.lst [])) (st ++ [o, sea []]) = .next (SL scr lap t x4 x5 x8 x9 x10 x11 x12 x13 st.length (st.length + 1) (.lst (gs.map dG))) (st ++ [o', sea gs]) ∧ Ml o' ∧ (∀ g ∈ gs, GOk g) ∧ gs.length ≤ 9 := by
  obtain ⟨ds', h', e, o', gs, t, rfl, ho', ok, hl, rfl⟩ := forL_invM (mg := tgName 3) (b := turnBody) (fun (i : Nat) => D.int (i : Int)) (fun L ds s => ∃ o gs t, s = st ++ [o, sea gs] ∧ Ml o ∧ (∀ g ∈ gs, GOk g) ∧ gs.length + L.length ≤ 9 ∧ ds = SL scr lap t x4 x5 x8 x9 x10 x11 x12 x13 st.length (st.length + 1) (.lst (gs.map dG)))
    (fun i L ds s ⟨o, gs, t, hs, ho, ok, hl, eds⟩ => by
      subst hs eds
      rw [List.length_cons] at hl
      obtain ⟨o', gs', e, ho', ok', hl'⟩ := turn_ok (scr := scr) (lap := lap) (x3 := some (.int (i : Int))) (x4 := x4) (x5 := x5) (x8 := x8) (x9 := x9) (x10 := x10) (x11 := x11) (x12 := x12) (x13 := x13) hf ho (by omega) ok
      exact ⟨_, _, rfl, _, _, .inl e, o', gs', _, rfl, ho', ok', by omega, rfl⟩)
    (List.range 9) (SL scr lap x3 x4 x5 x8 x9 x10 x11 x12 x13 st.length (st.length + 1) (.lst (([] : List Gm).map dG))) (st ++ [o, sea []]) ⟨o, [], x3, rfl, ho, by simp, by simp, rfl⟩
  refine ⟨o', gs, t, ?_, ho', ok, by simpa using hl⟩
  have hr : rng1 [.int 9] = some ((List.range 9).map fun (i : Nat) => .int (i : Int)) := rng_nat (n := 9) (by decide)
  rw [P3_eq]
  simp only [List.map_nil] at e
  simp [hr]
  exact e
theorem P4_ok {o : Ob} {gs : List Gm} (hf : flat st = true) (ho : Ml o) (hl : gs.length ≤ 9) (ok : ∀ g ∈ gs, GOk g) : ∃ o' gs', P4 (SL scr lap x3 x4 x5 x8 x9 x10 x11 x12 x13 st.length (st.length + 1) (.lst (gs.map dG))) (st ++ [o, sea gs]) = .next (SL scr lap x3 x4 x5 (some (.ref (st.length + 2))) (some (.ref (st.length + 3))) x10 x11 x12 x13 st.length (st.length + 1) (.lst (gs.map dG))) (st ++ [o', sea gs, sea gs, sea gs']) ∧ Ml o' ∧ gs'.Perm gs := by
  have e1 := e_text_law (h := st ++ [o, sea gs]) (gs := gs) (by omega) ok
  have e2 := e_read_season (h := st ++ [o, sea gs]) (gs := gs) (by omega) ok
  have e3 := e_told (h := st ++ [o, sea gs]) (t := .tup (gs.map dG)) (.inr rfl) (by omega) ok
  obtain ⟨ys, o', hp, e4, ho'⟩ := e_shuffled (h := st ++ [o, sea gs, sea gs]) (t := .lst (gs.map dG)) (.inl rfl) get_mid ho (flat_one hf ho (by simp [flat, sea_low])) (lowAll_iff.mpr fun d hd => by
    obtain ⟨g, hg, rfl⟩ := List.mem_map.mp hd
    exact good_low (good_dG (ok g hg))) (by simp; omega)
  obtain ⟨gs', rfl, hp'⟩ := perm_map_inv dG hp rfl
  rw [set_mid] at e4
  have e5 := e_told (h := st ++ [o', sea gs, sea gs]) (t := .lst (gs'.map dG)) (gs := gs') (.inl rfl) (by rw [hp'.length_eq]; omega) (fun g hg => ok g (hp'.mem_iff.mp hg))
  refine ⟨o', gs', ?_, ho', hp'⟩
  have l2 : (st ++ [o, sea gs]).length = st.length + 2 := by simp
  have l3 : (st ++ [o', sea gs, sea gs]).length = st.length + 3 := by simp
  rw [l2, List.append_assoc] at e3
  rw [l3, List.append_assoc] at e5
  simp only [List.cons_append, List.nil_append] at e3 e5
  unfold P4
  simp [e1, e2, e3, e4, e5]
theorem eqI_no {h : MH} {a b : Nat} {f1 f2 : List (Str × D)} (h1 : h[a]? = some (.ins 45 f1)) (h2 : h[b]? = some (.ins 45 f2)) (hne : a ≠ b) : gEqI 45 (.ref a) (.ref b) h = some (.bl false, h) := by
  simp [gEqI, h1, h2, hne]
theorem P5_ok {o : Ob} {gs gs' : List Gm} (hl : gs.length ≤ 9) (ok : ∀ g ∈ gs, GOk g) (hp : gs'.Perm gs) :
    P5 (SL scr lap x3 x4 x5 (some (.ref (st.length + 2))) (some (.ref (st.length + 3))) x10 x11 x12 x13 st.length (st.length + 1) (.lst (gs.map dG))) (st ++ [o, sea gs, sea gs, sea gs']) = .next (SL scr lap x3 x4 x5 (some (.ref (st.length + 2))) (some (.ref (st.length + 3))) x10 x11 x12 x13 st.length (st.length + 1) (.lst (gs.map dG))) (st ++ [o, sea gs, sea gs, sea gs']) := by
  have a1 : (st ++ [o, sea gs, sea gs, sea gs'])[st.length + 1]? = some (sea gs) := get_mid1
  have a2 : (st ++ [o, sea gs, sea gs, sea gs'])[st.length + 2]? = some (sea gs) := get_mid2
  have a3 : (st ++ [o, sea gs, sea gs, sea gs'])[st.length + 3]? = some (sea gs') := get_mid3
  generalize st ++ [o, sea gs, sea gs, sea gs'] = h at *
  have i1 := onIns_at (α := D) a1
  have i2 := onIns_at (α := D) a2
  have i3 := onIns_at (α := D) a3
  have e1 := e_standing a1 (by omega) ok
  have e2 := e_standing a2 (by omega) ok
  have e3 := e_standing a3 (by rw [hp.length_eq]; omega) (fun g hg => ok g (hp.mem_iff.mp hg))
  rw [stand_perm hp] at e3
  have hg : good 5 (.lst [.tup ((stand gs).map (row3 gs)), .tup ((stand gs).map (row3 gs))]) = true := by
    have g1 := good_mono (m := 4) (by decide) (good_stand gs)
    simp only [good, Bool.and_eq_true, decide_eq_true_eq, List.all_eq_true, List.length_cons, List.length_nil]
    refine ⟨two_le, fun d hd => ?_⟩
    simp only [List.mem_cons, List.mem_nil_iff, or_false, or_self] at hd
    subst hd
    exact g1
  have hthat := e_is_that (h := h) hg
  have hmul : gMul (.lst [.tup ((stand gs).map (row3 gs))]) (.int 2) h = some (.lst [.tup ((stand gs).map (row3 gs)), .tup ((stand gs).map (row3 gs))], h) := by
    rw [v_mulL, if_pos ⟨by decide, by decide, two_le⟩]
    rfl
  have hq : gEqI 45 (.ref (st.length + 2)) (.ref (st.length + 1)) h = some (.bl false, h) := eqI_no a2 a1 (by omega)
  unfold P5
  simp [i1, i2, i3, e1, e2, e3, two_le, one_le, hmul, hthat, hq]
theorem P6_ok {o : Ob} {gs : List Gm} {r : MH} (hf : flat st = true) (ho : Ml o) (hr : flat r = true) : ∃ (o' : Ob) (more : List Gm), P6 (SL scr lap x3 x4 x5 x8 x9 x10 x11 x12 x13 st.length (st.length + 1) (.lst (gs.map dG))) (st ++ (o :: sea gs :: r)) = .next (SL scr lap x3 (some (.lst (more.map dG))) x5 x8 x9 x10 x11 x12 x13 st.length (st.length + 1) (.lst (gs.map dG))) (st ++ (o' :: sea gs :: r)) ∧ Ml o' ∧ (∀ g ∈ more, GOk g) ∧ more.length = 3 := by
  obtain ⟨ys, h', e4, ⟨o4, rfl, ho4⟩, hal⟩ := lcL_ex (ds0 := SL scr lap none x4 x5 x8 x9 x10 x11 x12 x13 st.length (st.length + 1) (.lst (gs.map dG))) (mg := tgName 3) (mt := mYes) (me := mCall 1 f__law_game (mCons (mVar 2) mNil))
    (fun s => ∃ o, s = st ++ (o :: sea gs :: r) ∧ Ml o) (fun (_ y : D) => ∃ g, y = dG g ∧ GOk g) ((List.range 3).map fun (i : Nat) => D.int (i : Int)) (st ++ (o :: sea gs :: r)) (fun x _ s ⟨o, hs, ho⟩ => by
      subst hs
      obtain ⟨g, o2, e, ho2, gok⟩ := more_game (gs := gs) hf ho hr
      refine ⟨dG g, _, ?_, ⟨o2, rfl, ho2⟩, g, rfl, gok⟩
      rw [lc1_of rfl]
      simp [e]) ⟨o, rfl, ho⟩
  have key : ∀ {xs ys : List D}, Al2 (fun (_ y : D) => ∃ g, y = dG g ∧ GOk g) xs ys → ∃ more : List Gm, ys = more.map dG ∧ (∀ g ∈ more, GOk g) ∧ more.length = xs.length := by
    intro xs ys a
    induction a with
    | nil => exact ⟨[], rfl, by simp, rfl⟩
    | cons r _ ih =>
      obtain ⟨g, rfl, gok⟩ := r
      obtain ⟨more, rfl, hm, hlen⟩ := ih
      refine ⟨g :: more, rfl, fun x hx => ?_, by simp [hlen]⟩
      rcases List.mem_cons.mp hx with rfl | hx
      · exact gok
      · exact hm x hx
  obtain ⟨more, rfl, hm, hlen⟩ := key hal
  refine ⟨o4, more, ?_, ho4, hm, by simpa using hlen⟩
  have hr : rng1 [.int 3] = some ((List.range 3).map fun (i : Nat) => .int (i : Int)) := rng_nat (n := 3) (by decide)
  unfold P6
  simp only [x_Set, x_Lc, x_Args, x_Cons, x_C, x_Nil, Res.bind_ok, hr, itR_some, List.length_map, List.length_range, three_le, if_true, x_wipe, x_wipe0, List.set_cons_succ, List.set_cons_zero, e4, lift_ok]
theorem P7_ok {h : MH} {m s : Nat} {gs more : List Gm} (hl : gs.length ≤ 9) (hm : more.length = 3) (ok : ∀ g ∈ gs, GOk g) (ok2 : ∀ g ∈ more, GOk g) : P7 (SL scr lap x3 (some (.lst (more.map dG))) x5 x8 x9 x10 x11 x12 x13 m s (.lst (gs.map dG))) h = .next (SL scr lap x3 (some (.lst (more.map dG))) (some (.ref h.length)) x8 x9 x10 x11 x12 x13 m s (.lst (gs.map dG))) (h ++ [sea (gs ++ more)]) := by
  have e := e_told (h := h) (t := .lst ((gs ++ more).map dG)) (gs := gs ++ more) (.inl rfl) (by rw [List.length_append]; omega) (fun g hg => by
    rcases List.mem_append.mp hg with hg | hg
    · exact ok g hg
    · exact ok2 g hg)
  have hz := small (n := gs.length + more.length) (by omega)
  rw [List.map_append] at e
  unfold P7
  simp [hz, e]
theorem P8_ok {h : MH} {m s b : Nat} {gs more : List Gm} (hb : h[b]? = some (sea (gs ++ more))) (hl : gs.length ≤ 9) (hm : more.length = 3) (ok : ∀ g ∈ gs, GOk g) (ok2 : ∀ g ∈ more, GOk g) : ∃ y10 y11 y12 y13, P8 (SL scr lap x3 (some (.lst (more.map dG))) (some (.ref b)) x8 x9 x10 x11 x12 x13 m s (.lst (gs.map dG))) h = .next (SL scr lap x3 (some (.lst (more.map dG))) (some (.ref b)) x8 x9 y10 y11 y12 y13 m s (.lst (gs.map dG))) h := by
  have ok' : ∀ g ∈ gs ++ more, GOk g := fun g hg => by
    rcases List.mem_append.mp hg with hg | hg
    · exact ok g hg
    · exact ok2 g hg
  have e1 := e_standing hb (by rw [List.length_append]; omega) ok'
  have i1 := onIns_at (α := D) hb
  obtain ⟨ds', h', e, rfl, y10, y11, y12, y13, rfl, _⟩ := forL_invM (mg := tgTup 3 (tgCons (tgName 10) (tgCons (tgName 11) (tgCons (tgName 12) tgNil)))) (b := (mSeq (mSet 13 (mLst (mCons (mCall 2 f__law_counted (mCons (mVar 7) (mCons (mVar 10) mNil))) (mCons (mCall 2 f__law_counted (mCons (mVar 4) (mCons (mVar 10) mNil))) mNil)))) (mIfS (mNotT (mTr (mCall 2 (C.f__law_is_that 6) (mCons (mLst (mCons (mVar 11) (mCons (mVar 12) mNil))) (mCons (mLst (mCons (mBin gAdd (mBin gIx (mBin gIx (mVar 13) (mC (.int 0))) (mC (.int 0))) (mBin gIx (mBin gIx (mVar 13) (mC (.int 1))) (mC (.int 0)))) (mCons (mBin gAdd (mBin gIx (mBin gIx (mVar 13) (mC (.int 0))) (mC (.int 1))) (mBin gIx (mBin gIx (mVar 13) (mC (.int 1))) (mC (.int 1)))) mNil))) mNil))))) (mRet (mC (.bl false))) mNext)))
    (row3 (gs ++ more)) (fun L ds st => st = h ∧ ∃ y10 y11 y12 y13, ds = SL scr lap x3 (some (.lst (more.map dG))) (some (.ref b)) x8 x9 y10 y11 y12 y13 m s (.lst (gs.map dG)) ∧ ∀ n ∈ L, n ∈ players)
    (fun n L ds st ⟨hs, y10, y11, y12, y13, eds, hn⟩ => by
      subst hs eds
      have hnp := hn n (by simp)
      have c1 := e_counted (h := st) (t := .lst (gs.map dG)) (.inl rfl) (by omega) ok hnp
      have c2 := e_counted (h := st) (t := .lst (more.map dG)) (.inl rfl) (by omega) ok2 hnp
      have a0 : ∀ a b c : D, atI [a, b, c] 0 = some a := fun _ _ _ => rfl
      have a1 : ∀ a b c : D, atI [a, b, c] 1 = some b := fun _ _ _ => rfl
      have b0 : ∀ a b : D, atI [a, b] 0 = some a := fun _ _ => rfl
      have b1 : ∀ a b : D, atI [a, b] 1 = some b := fun _ _ => rfl
      have hg : good 5 (.lst [.int (tot gs n + tot more n), .int ((won gs n).length + (won more n).length)]) = true := by simp [good, two_le]
      have hthat := e_is_that (h := st) hg
      refine ⟨_, _, rfl, SL scr lap x3 (some (.lst (more.map dG))) (some (.ref b)) x8 x9 (some (.str n)) (some (.int (tot (gs ++ more) n))) (some (.int (won (gs ++ more) n).length)) (some (.lst [.tup [.int (tot gs n), .int (won gs n).length, .int (own gs n).length], .tup [.int (tot more n), .int (won more n).length, .int (own more n).length]])) m s (.lst (gs.map dG)), st, .inl ?_, rfl, _, _, _, _, rfl, fun k hk => hn k (by simp [hk])⟩
      simp only [x_Seq, x_Set, x_Lst, x_Cons, x_Call, x_Var, x_Nil, List.getElem?_cons_succ, List.getElem?_cons_zero, slotR_some, Res.bind_ok, List.set_cons_succ, List.set_cons_zero, List.length_cons, List.length_nil, Nat.zero_add, Nat.reduceAdd, if_true, c1, c2, two_le, lift_ok, nxt_next, x_IfS, x_NotT, x_Tr, x_Bin, x_C, v_ix_lst, v_ix_tup, a0, a1, b0, b1, Option.map_some, Res.of_some, v_add_int, tot_app, won_app, hthat, v_tru_bl, onSome_some, Bool.not_true, Bool.false_eq_true, if_false, x_Next])
    (stand (gs ++ more)) (SL scr lap x3 (some (.lst (more.map dG))) (some (.ref b)) x8 x9 x10 x11 x12 x13 m s (.lst (gs.map dG))) h ⟨rfl, _, _, _, _, rfl, fun n hn => nms_players (stand_mem.mp hn)⟩
  refine ⟨y10, y11, y12, y13, ?_⟩
  unfold P8
  simp [i1, e1]
  exact e
theorem P9_ok {o : Ob} {gs : List Gm} {r : MH} (hl : gs.length ≤ 9) (ok : ∀ g ∈ gs, GOk g) : ∃ t, P9 (SL scr lap x3 x4 x5 x8 x9 x10 x11 x12 x13 st.length (st.length + 1) (.lst (gs.map dG))) (st ++ (o :: sea gs :: r)) = .next (SL scr lap t x4 x5 x8 x9 x10 x11 x12 x13 st.length (st.length + 1) (.lst (gs.map dG))) (st ++ (o :: sea [] :: r)) := by
  obtain ⟨ds', h', e, k, t, rfl, hk, rfl⟩ := forL_invM (mg := tgName 3) (b := mExpr (mMeth 45 1 "undo" C.f_Season_undo (mVar 6) mNil)) (fun (i : Nat) => D.int (i : Int)) (fun L ds s => ∃ (k : List Gm) (t : Option D), s = st ++ (o :: sea k :: r) ∧ (k.length = L.length ∧ (∀ g ∈ k, GOk g) ∧ k.length ≤ 9) ∧ ds = SL scr lap t x4 x5 x8 x9 x10 x11 x12 x13 st.length (st.length + 1) (.lst (gs.map dG)))
    (fun i L ds s ⟨k, t, hs, ⟨hk, kok, hk9⟩, eds⟩ => by
      subst hs eds
      have hat := get_mid1 (st := st) (a := o) (b := sea k) (r := r)
      have eu := e_undo hat (by omega) kok
      have hne : k.isEmpty = false := by
        cases k with
        | nil => simp at hk
        | cons a k => rfl
      rw [hne, set_mid1] at eu
      simp only [Bool.false_eq_true, if_false] at eu
      have i1 := onIns_at (α := D) hat
      refine ⟨_, _, rfl, SL scr lap (some (.int (i : Int))) x4 x5 x8 x9 x10 x11 x12 x13 st.length (st.length + 1) (.lst (gs.map dG)), st ++ (o :: sea k.dropLast :: r), .inl ?_, k.dropLast, _, rfl, ⟨by rw [List.length_dropLast]; simp at hk; omega, fun g hg => kok g (List.dropLast_subset _ hg), by rw [List.length_dropLast]; omega⟩, rfl⟩
      simp [i1, eu])
    (List.range gs.length) (SL scr lap x3 x4 x5 x8 x9 x10 x11 x12 x13 st.length (st.length + 1) (.lst (gs.map dG))) (st ++ (o :: sea gs :: r)) ⟨gs, x3, rfl, ⟨by simp, ok, hl⟩, rfl⟩
  have hk0 : k = [] := by
    have := hk.1
    simpa using this
  subst hk0
  refine ⟨t, ?_⟩
  have hr : rng1 [.int gs.length] = some ((List.range gs.length).map fun (i : Nat) => .int (i : Int)) := rng_nat (Int.lt_of_le_of_lt (Int.ofNat_le.mpr hl) (by decide))
  unfold P9
  simp [hr]
  exact e
theorem P10_ok {h : MH} {m s : Nat} {G : D} (hs : h[s]? = some (sea [])) : P10 (SL scr lap x3 x4 x5 x8 x9 x10 x11 x12 x13 m s G) h = .next (SL scr lap x3 x4 x5 x8 x9 x10 x11 x12 x13 m s G) h := by
  have e1 := e_none_of hs
  have e2 := e_standing hs (by simp) (by simp)
  have i1 := onIns_at (α := D) hs
  have hst : stand [] = [] := by
    have : nms [] = [] := by simp [nms]
    unfold stand
    rw [this]; simp
  rw [hst] at e2
  have hthat := e_is_that (h := h) (n := 5) (d := .tup []) rfl
  unfold P10
  simp [e1, i1, e2, hthat]
theorem lap_ok {k : Nat} {ns : List Int} {ds : Sl} (hl : ns.length ≤ 63) (hk : k ≤ 1) (hf : flat st = true) (hd : ∃ a, ds = [some (.scr (ns.map .int)), some (.int k)] ++ a ∧ a.length = 12) : ∃ b st', lapBody ds st = .next ([some (.scr (ns.map .int)), some (.int k)] ++ b) st' ∧ b.length = 12 ∧ flat st' = true := by
  obtain ⟨a, rfl, ha⟩ := hd
  match a, ha with
  | [x2, x3, x4, x5, x6, x7, x8, x9, x10, x11, x12, x13], _ =>
  obtain ⟨o, em, ho⟩ := e_mill (h := st) hl hk
  have q0 : P0 ([some (.scr (ns.map .int)), some (.int k)] ++ [x2, x3, x4, x5, x6, x7, x8, x9, x10, x11, x12, x13]) st = .next [some (.scr (ns.map .int)), some (.int k), some (.ref st.length), x3, x4, x5, x6, x7, x8, x9, x10, x11, x12, x13] (st ++ [o]) := by
    unfold P0
    simp [em]
  have q1 : P1 [some (.scr (ns.map .int)), some (.int k), some (.ref st.length), x3, x4, x5, x6, x7, x8, x9, x10, x11, x12, x13] (st ++ [o]) = .next (SL (.scr (ns.map .int)) (some (.int k)) x3 x4 x5 x8 x9 x10 x11 x12 x13 st.length (st.length + 1) (.lst [])) (st ++ [o, sea []]) := by
    unfold P1
    simp [e_make]
  have q2 : P2 (SL (.scr (ns.map .int)) (some (.int k)) x3 x4 x5 x8 x9 x10 x11 x12 x13 st.length (st.length + 1) (.lst [])) (st ++ [o, sea []]) = .next (SL (.scr (ns.map .int)) (some (.int k)) x3 x4 x5 x8 x9 x10 x11 x12 x13 st.length (st.length + 1) (.lst [])) (st ++ [o, sea []]) := by
    have e1 := e_none_of (h := st ++ [o, sea []]) (s := st.length + 1) get_mid1
    have e2 := e_right (h := st ++ [o, sea []]) (s := st.length + 1) (gs := []) get_mid1 (flat_one hf ho rfl) (by simp) (by simp)
    simp only [List.map_nil] at e2
    unfold P2
    simp [e1, e2]
  obtain ⟨o1, gs, t3, q3, ho1, ok, hg9⟩ := P3_ok (scr := .scr (ns.map .int)) (lap := some (.int k)) (x3 := x3) (x4 := x4) (x5 := x5) (x8 := x8) (x9 := x9) (x10 := x10) (x11 := x11) (x12 := x12) (x13 := x13) hf ho
  obtain ⟨o2, gs', q4, ho2, hp⟩ := P4_ok (scr := .scr (ns.map .int)) (lap := some (.int k)) (x3 := t3) (x4 := x4) (x5 := x5) (x8 := x8) (x9 := x9) (x10 := x10) (x11 := x11) (x12 := x12) (x13 := x13) hf ho1 hg9 ok
  have q5 := P5_ok (st := st) (scr := .scr (ns.map .int)) (lap := some (.int k)) (x3 := t3) (x4 := x4) (x5 := x5) (x10 := x10) (x11 := x11) (x12 := x12) (x13 := x13) (o := o2) hg9 ok hp
  obtain ⟨o3, more, q6, ho3, ok2, hm3⟩ := P6_ok (scr := .scr (ns.map .int)) (lap := some (.int k)) (x3 := t3) (x4 := x4) (x5 := x5) (x8 := some (.ref (st.length + 2))) (x9 := some (.ref (st.length + 3))) (x10 := x10) (x11 := x11) (x12 := x12) (x13 := x13) (gs := gs) (r := [sea gs, sea gs']) hf ho2 (by simp [flat, sea_low])
  have q7 := P7_ok (scr := .scr (ns.map .int)) (lap := some (.int k)) (x3 := t3) (x5 := x5) (x8 := some (.ref (st.length + 2))) (x9 := some (.ref (st.length + 3))) (x10 := x10) (x11 := x11) (x12 := x12) (x13 := x13) (h := st ++ [o3, sea gs, sea gs, sea gs']) (m := st.length) (s := st.length + 1) hg9 hm3 ok ok2
  have l4 : (st ++ [o3, sea gs, sea gs, sea gs']).length = st.length + 4 := by simp
  rw [l4, List.append_assoc] at q7
  simp only [List.cons_append, List.nil_append] at q7
  obtain ⟨y10, y11, y12, y13, q8⟩ := P8_ok (scr := .scr (ns.map .int)) (lap := some (.int k)) (x3 := t3) (x8 := some (.ref (st.length + 2))) (x9 := some (.ref (st.length + 3))) (x10 := x10) (x11 := x11) (x12 := x12) (x13 := x13) (h := st ++ [o3, sea gs, sea gs, sea gs', sea (gs ++ more)]) (m := st.length) (s := st.length + 1) (b := st.length + 4) get_mid4 hg9 hm3 ok ok2
  obtain ⟨t9, q9⟩ := P9_ok (st := st) (scr := .scr (ns.map .int)) (lap := some (.int k)) (x3 := t3) (x4 := some (.lst (more.map dG))) (x5 := some (.ref (st.length + 4))) (x8 := some (.ref (st.length + 2))) (x9 := some (.ref (st.length + 3))) (x10 := y10) (x11 := y11) (x12 := y12) (x13 := y13) (o := o3) (gs := gs) (r := [sea gs, sea gs', sea (gs ++ more)]) hg9 ok
  have q10 := P10_ok (scr := .scr (ns.map .int)) (lap := some (.int k)) (x3 := t9) (x4 := some (.lst (more.map dG))) (x5 := some (.ref (st.length + 4))) (x8 := some (.ref (st.length + 2))) (x9 := some (.ref (st.length + 3))) (x10 := y10) (x11 := y11) (x12 := y12) (x13 := y13) (h := st ++ [o3, sea [], sea gs, sea gs', sea (gs ++ more)]) (m := st.length) (s := st.length + 1) (G := .lst (gs.map dG)) get_mid1
  refine ⟨[some (.ref st.length), t9, some (.lst (more.map dG)), some (.ref (st.length + 4)), some (.ref (st.length + 1)), some (.lst (gs.map dG)), some (.ref (st.length + 2)), some (.ref (st.length + 3)), y10, y11, y12, y13], st ++ [o3, sea [], sea gs, sea gs', sea (gs ++ more)], ?_, rfl, ?_⟩
  · unfold lapBody
    simp only [x_Seq, q0, nxt_next, q1, q2]
    rw [q3, nxt_next, x_Seq, q4, nxt_next, x_Seq, q5, nxt_next, x_Seq, q6, nxt_next, x_Seq, q7, nxt_next, x_Seq, q8, nxt_next, x_Seq, q9, nxt_next, q10]
    rfl
  · rw [flat_append, hf]
    simp [flat, sea_low, ho3.low]
theorem plain (ns : List Int) (hl : ns.length ≤ 63) (hb : ∀ z ∈ ns, Builtin.Int.intBits z ≤ 1048576) : ∃ h', f_law [.scr (ns.map D.int)] [] = .ok (.bl true) h' := by
  obtain ⟨ds', h', e, hf, b, x, rfl, hb'⟩ := forL_invM (mg := tgName 1) (b := lapBody) (fun (k : Nat) => D.int (k : Int)) (fun L ds st => flat st = true ∧ ∃ (b : Sl) (x : Option D), ds = some (.scr (ns.map .int)) :: x :: b ∧ (b.length = 12 ∧ ∀ k ∈ L, k ≤ 1))
    (fun k L ds st ⟨hf, b, x, eds, hb, hL⟩ => by
      subst eds
      obtain ⟨b', st', e, hb', hf'⟩ := lap_ok (k := k) (ds := some (.scr (ns.map .int)) :: some (.int (k : Int)) :: b) hl (hL k (by simp)) hf ⟨b, rfl, hb⟩
      exact ⟨_, _, rfl, _, _, .inl e, hf', b', _, rfl, hb', fun j hj => hL j (by simp [hj])⟩)
    [0, 1] [some (.scr (ns.map .int)), none, none, none, none, none, none, none, none, none, none, none, none, none] [] ⟨rfl, _, _, rfl, rfl, by simp⟩
  refine ⟨h', ?_⟩
  rw [law_eq]
  simp [two_le]
  simp at e
  rw [e]
  simp
end
end K80
set_option Elab.async false
set_option linter.all false
set_option maxRecDepth 100000
set_option maxHeartbeats 4000000
set_option autoImplicit false
open PySem PySem.W PySem.Calls PyProof.Rows
set_option maxHeartbeats 0 in
theorem PySem.Challenge.cw_thirdgames_k80_whole_seasons_counted_holds : PySem.Challenge.rw_thirdgames_k80_whole_seasons_counted.Holds := by
  w_on; o_law
  refine HandSHeadRun.head_any (r := OpenLaw.row PySem.Challenge.rw_thirdgames_k80_whole_seasons_counted) (q := view (OpenLaw.row PySem.Challenge.rw_thirdgames_k80_whole_seasons_counted).prog [62]) (H := K80.hk) (ob := K80.ob) (M := 6000) (loose := K80.loose) (d := HandSHeadRun.topDef (OpenLaw.row PySem.Challenge.rw_thirdgames_k80_whole_seasons_counted).prog 62) (kwd := []) K80.ob_eq
    (by kernel_rfl) (fun s => by kernel_rfl) K80.run (by kernel_rfl) (by kernel_rfl) (by kernel_rfl) (by rfl) (by first | assumption | decide +kernel) (by decide +kernel) ⟨rfl, rfl, rfl, rfl, rfl, by decide +kernel⟩ ?hw ?hc
  case hw => w_witness2
  case hc =>
    refine LamX.walk_ofTsE (l := PySem.Challenge.rw_thirdgames_k80_whole_seasons_counted) (n := 63) (k := 9) (x := "script") (CX := L2.CX (PySem.Challenge.rw_thirdgames_k80_whole_seasons_counted).prog) rfl (by decide) (by kernel_rfl) ⟨rfl, by decide, by decide⟩ ?F (fun w H s e s' x => ML.CX_end w H s e s' x)
    intro w mg fa h Y G hmg0
    obtain ⟨K, KX, S⟩ := Y
    have hmg : mg ("law" : PySem.Str) = some (.ref fa) := by
      have e : (HandSHeadRun.topDef (OpenLaw.row PySem.Challenge.rw_thirdgames_k80_whole_seasons_counted).prog 62).name = ("law" : PySem.Str) := by kernel_rfl
      rw [← e]
      exact hmg0
    exact ⟨K, KX, K80.law_at ⟨KX, G, S⟩ hmg K80.plain⟩
