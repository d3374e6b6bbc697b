import PyProof.Rows.All
import Wide.All
import OpenK.AllK
import Wide.FinOn
import HandS.ForMost
import HandS.Flow
import HandS.IsInst
import HandS.Wide
import HandS.SetKeys
import HandS.TupAny
import HandS.TupMul
import HandS.WordsExc
import HandS.CallSlots
import HandS.Evl
import HandS.Zip
import HandS.Set
import HandS.Strs
import HandS.SetBool
import HandS.SetFor
import PyProof.CollectStr
import PyProof.Rows.SortShellSt
import HandS.Style
import HandS.TupLe
import HandS.Text
import PyProof.CallFns
import PyProof.StrOps2
import PyProof.Rows.FactsN_isinstance
import HandS.Defaults
import HandS.Comp
import KE.KDictPairs
import HandS.Sort
import PyProof.SumWalkG
import HandS.MakeKwOnly
import KE.SortCalls
import HandS.GenYield
import HandS.GenList
import HandS.GenCall
import HandS.More
import HandS.Deep
import HandS.TupSets
import KE.KeyNested
import HandS.Conv
import KE.KItemsList
import KE.KDictExact
import PySem.Challenge.RW_signlayers_k06_whole_stacks_on_all_texts
import KE.KStateDown
import HandS.Words
import HandS.Head0
import HandS.Head1
import HandS.Head2
import HandS.HeadEnd
import HandS.HeadHook1
import HandS.HeadHook2
set_option Elab.async false
set_option linter.all false
set_option maxRecDepth 100000
set_option maxHeartbeats 4000000
section
/-! tuples that are known to have no dict of their own (dict(t) asks for 'keys') -/
namespace Dl
open PySem PySem.Spec PyProof.Rows L2
open Evl (Ex)

/-- a plain tuple -/
def PTu (G : Hp) (a : Addr) (xs : List V) : Prop := ∃ o, G a = some (.frz o (.tup xs)) ∧ o.dict = none
theorem PTu.ex {G H : Hp} {a : Addr} {xs : List V} (h : PTu G a xs) (e : Ex G H) : PTu H a xs := let ⟨o, h1, h2⟩ := h; ⟨o, e _ _ h1, h2⟩
theorem PTu.sq {K : PySem.W.Frag} {G H : Hp} {a : Addr} {xs : List V} (h : PTu G a xs) (e : Ex G H) : SqT K H a xs := let ⟨o, h1, _⟩ := h; .inl (.inr ⟨o, e _ _ h1⟩)
theorem PTu.new {G : Hp} {a : Addr} {xs : List V} {o : Obj} (h : o.dict = none) : PTu (upd G a (.frz o (.tup xs))) a xs := ⟨o, upd_same, h⟩

section
variable {X : Cx} {es : List Expr} {t : TA} {pos : Pos}
def tTupP (t : TA) : TE := fun σ H Q => t σ H fun xs H1 => xs.length ≤ sizeLine ∧ ∀ p o, H1 p = none → o.dict = none → Q (.ref p) (upd H1 p (.frz o (.tup xs)))
theorem pe_tupP {x1} (h : PA X es t) : PE X (.Tuple es x1 pos) (tTupP t) := by
  refine ⟨fun pins s σ H Q I hq => ?_⟩
  refine wpAny_Tuple_spliced (thn (h.run pos pins s σ H _ I hq) fun us s1 ⟨xs, H1, I1, r, z, q⟩ => ⟨by rw [← r.length]; exact z, ?_⟩)
  have hf : H1 s1.heap.objs.size = none := I1.hok.fresh (Nat.le_refl _)
  refine ⟨.ref s1.heap.objs.size, upd H1 s1.heap.objs.size (.frz { cls := .type "tuple", data := .seq us.toArray } (.tup xs)), I1.laid (t' := s1.toks) (fun b u e => Heap.get?_push_of_some _ e) (Nat.le_refl _) ?_, rfl, q _ _ hf rfl⟩
  exact ⟨Heap.get?_push_size _ rfl, z, us, r, ⟨_, Heap.get?_push_size _ rfl, rfl, _, rfl⟩⟩
def rCatP (K : PySem.W.Frag) : R2 := fun x y H Q => ∃ a b xs ys, x = .ref a ∧ y = .ref b ∧ SqT K H a xs ∧ SqT K H b ys ∧ xs.length + ys.length ≤ sizeLine ∧
  (xs = [] → Q (.ref b) H) ∧ (xs ≠ [] → ys = [] → Q (.ref a) H) ∧ (xs ≠ [] → ys ≠ [] → ∀ p o, H p = none → o.dict = none → Q (.ref p) (upd H p (.frz o (.tup (xs ++ ys)))))
theorem op_catP : OpR X (binaryOp .Add) (rCatP X.K) := by
  intro pins s σ H x y v u Q I rx ry h
  obtain ⟨a, b, xs, ys, rfl, rfl, ha, hb, hz, q0, q1, q2⟩ := h
  cases rx
  cases ry
  obtain ⟨its, r1, p1, _⟩ := I.tuple ha
  obtain ⟨its2, r2, p2, _⟩ := I.tuple hb
  by_cases hx : xs = []
  · subst hx
    cases r1
    exact cat_tup0 p1 p2 ⟨.ref b, H, I, rfl, q0 rfl⟩
  · refine HT.cat_tup p1 p2 (fun z => hx (r1.nil_iff.mp z)) (fun z => ⟨.ref a, H, I, rfl, q1 hx (r2.nil_iff.mp z)⟩) (fun z => ?_) (by rw [← r1.length, ← r2.length]; exact hz)
    refine ⟨.ref s.heap.objs.size, _, I.laid (t' := s.toks) (o := .frz { cls := .type "tuple", data := .seq (its ++ its2).toArray } (.tup (xs ++ ys))) (fun b ob q => Heap.get?_push_of_some _ q) (Nat.le_refl _) ?_, rfl, q2 hx (fun w => z (r2.nil_iff.mpr w)) _ _ (I.hok.fresh (Nat.le_refl _)) rfl⟩
    exact ⟨Heap.get?_push_size _ rfl, by rw [List.length_append]; exact hz, _, r1.append r2, IsTup.new _ _⟩
def rSlP (K : PySem.W.Frag) : V → Option Int → Option Int → Hp → VK → Prop := fun x lo hi H Q => ∃ a xs, x = .ref a ∧ SqT K H a xs ∧
  (HT.sIx xs.length 0 lo = 0 ∧ HT.sIx xs.length xs.length hi = xs.length → Q (.ref a) H) ∧ (¬ (HT.sIx xs.length 0 lo = 0 ∧ HT.sIx xs.length xs.length hi = xs.length) → ∀ p o, H p = none → o.dict = none → Q (.ref p) (upd H p (.frz o (.tup (cutV xs lo hi)))))
theorem sl_tupP : SlR X (rSlP X.K) := by
  intro pins s σ H x v vl vu lo hi sl Q I rx hs pl pu h
  obtain ⟨a, xs, rfl, hx, q1, q2⟩ := h
  cases rx
  obtain ⟨its, r, ht, hz⟩ := I.tuple hx
  have hlen : its.toArray.size = xs.length := by rw [List.size_toArray]; exact r.length.symm
  refine ⟨"tuple", _, PyProof.Rows.slot_tuple_getitem.lookup, ht.typeIs, ?_⟩
  by_cases hw : HT.sIx xs.length 0 lo = 0 ∧ HT.sIx xs.length xs.length hi = xs.length
  · exact getItem_tuple_whole ht hs pl pu (by rw [hlen]; exact hw) ⟨.ref a, H, I, rfl, q1 hw⟩
  · refine HT.getItem_tuple_cut ht hs pl pu (by rw [hlen]; exact hw) ?_ (by rw [hlen]; exact hz)
    rw [hlen]
    refine ⟨.ref s.heap.objs.size, _, I.laid (t' := s.toks) (o := .frz { cls := .type "tuple", data := .seq ((its.drop (HT.sIx xs.length 0 lo)).take (HT.sIx xs.length xs.length hi - HT.sIx xs.length 0 lo)).toArray } (.tup (cutV xs lo hi))) (fun b ob q => Heap.get?_push_of_some _ q) (Nat.le_refl _) ?_, rfl, q2 hw _ _ (I.hok.fresh (Nat.le_refl _)) rfl⟩
    exact ⟨Heap.get?_push_size _ rfl, Nat.le_trans (cutV_length xs lo hi) hz, _, (r.drop (HT.sIx xs.length 0 lo)).take (HT.sIx xs.length xs.length hi - HT.sIx xs.length 0 lo), IsTup.new _ _⟩
theorem call_tuple_ofP : CallR X (.type "tuple") (fun xs H Q => ∃ p ys, xs = [.ref p] ∧ ((SqL X.K H p ys ∧ ∀ l o, H l = none → o.dict = none → Q (.ref l) (upd H l (.frz o (.tup ys)))) ∨ (SqT X.K H p ys ∧ Q (.ref p) H))) := by
  intro pins s σ H xs us Q I r h
  obtain ⟨p, ys, rfl, h⟩ := h
  obtain ⟨u, rfl, rx⟩ := vals1 r
  cases rx
  rcases h with ⟨hq, q⟩ | ⟨hq, q⟩
  · obtain ⟨its, r', pl, hz⟩ := I.list hq
    have hlen := r'.length
    refine call_tuple_list pl.isList (fun h' kp => ?_) (by simp only [List.size_toArray] <;> omega)
    have I1 : Inv X pins σ H { s with heap := h' } := I.kept (t' := s.toks) kp
    have I2 : Inv X pins σ (upd H h'.objs.size (.frz { cls := .type "tuple", data := .seq its.toArray } (.tup ys))) { s with heap := h'.push { cls := .type "tuple", data := .seq its.toArray } } :=
      I1.laid (t' := s.toks) (fun b o e => Heap.get?_push_of_some _ e) (Nat.le_refl _) (show ObjOk X.prog X.w _ _ _ (.frz _ (.tup ys)) from ⟨Heap.get?_push_size _ rfl, hz, its, r', IsTup.new _ _⟩)
    exact ⟨.ref h'.objs.size, _, I2, rfl, q _ _ (I1.hok.fresh (Nat.le_refl _)) rfl⟩
  · obtain ⟨its, r', pl, hz⟩ := I.tuple hq
    exact call_tuple_same pl ⟨.ref p, H, I, rfl, q⟩
theorem op_repP : OpR X (binaryOp .Mult) (fun x y H Q => ∃ l k xs, x = .ref l ∧ y = .int k ∧ SqT X.K H l xs ∧ xs ≠ [] ∧ 2 ≤ k ∧ k ≤ 1000 ∧ xs.length ≤ 1000 ∧ ∀ p o, H p = none → o.dict = none → Q (.ref p) (upd H p (.frz o (.tup (List.replicate k.toNat xs).flatten)))) := by
  intro pins s σ H x y v u Q I rx ry h
  obtain ⟨l, k, xs, rfl, rfl, hT, hne, h1, h2, hz, q⟩ := h
  cases rx
  obtain ⟨t, rfl⟩ := ry
  obtain ⟨its, r, ⟨⟨cls, dd, data, sl⟩, ho, hc, n, hd⟩, hs⟩ := I.tuple hT
  simp only at hc hd
  subst hc hd
  have hle : its.length = xs.length := r.length.symm
  have hn : its ≠ [] := fun e => hne (by
    rw [e] at hle
    exact List.eq_nil_of_length_eq_zero hle.symm)
  have hi : its.toArray.isEmpty = false := by
    cases its with
    | nil => exact absurd rfl hn
    | cons a b => rfl
  have hsz0 : its.toArray.size = xs.length := by rw [List.size_toArray, hle]
  have hm : ((its.toArray.size : Nat) : Int) * k ≤ 1000000 := by
    rw [hsz0]
    have a1 : ((xs.length : Nat) : Int) * k ≤ 1000 * k := Int.mul_le_mul_of_nonneg_right (by omega) (by omega)
    omega
  have flen : (List.replicate k.toNat its).flatten.length ≤ sizeLine := by
    rw [PyProof.Rows.lm_len_rep_flat, hle, sizeLine_eq]
    have a1 : k.toNat * xs.length ≤ 1000 * 1000 := Nat.mul_le_mul (by omega) hz
    omega
  have c0 : (decide (k < -(2 ^ 63)) || decide (k ≥ 2 ^ 63)) = false := by
    rw [decide_eq_false (by omega), decide_eq_false (by omega)] <;> rfl
  have c1 : (its.toArray.isEmpty || k == 1) = false := by
    rw [hi, Bool.false_or]
    exact beq_eq_false_iff_ne.mpr (by omega)
  have c2 : (decide (k ≤ 0) || its.toArray.isEmpty) = false := by
    rw [hi, Bool.or_false]
    exact decide_eq_false (by omega)
  have c4 : Builtin.Tuple.tupleTooMany (((its.toArray.size : Nat) : Int) * k) = false := by
    unfold Builtin.Tuple.tupleTooMany
    rw [sizeLine_eq]
    exact decide_eq_false (by omega)
  refine wpAny_binaryOp_repeat_ref (T := "tuple") (U := "int") (by decide) ⟨_, ho, rfl⟩ (fun s' => typeIs_int s' k t) noFill_tuple_mul F.fills_int_mul F.slot_int_rmul repeat_tuple F.slot_int_index.lookup
    (call_meets F.slot_int_rmul (typeIs_int s k t) F.entry_int_rmul (F.args_int_rmul_2 _ _) (int_rmul_tuple k t l its.toArray n dd sl)
      ⟨ho, rfl, ⟨_, ho, rfl⟩, call_meets F.slot_tuple_mul ⟨_, ho, rfl⟩ F.entry_tuple_mul (F.args_tuple_mul_2 _ _) (tuple_mulW l its.toArray n dd sl k t c0 c1 c2 (by omega) c4 (by rw [size_rep, List.size_toArray]; exact flen)) ⟨ho, ?_⟩⟩)
  rw [size_rep]
  refine ⟨.ref s.heap.objs.size, _, I.laid (t' := s.toks) (o := .frz { cls := .type "tuple", data := .seq (List.replicate k.toNat its).flatten.toArray } (.tup (List.replicate k.toNat xs).flatten)) (fun b ob q => Heap.get?_push_of_some _ q) (Nat.le_refl _) ?_, rfl, q _ _ (I.hok.fresh (Nat.le_refl _)) rfl⟩
  exact ⟨Heap.get?_push_size _ rfl, by rw [PyProof.Rows.lm_len_rep_flat, sizeLine_eq]; have a1 : k.toNat * xs.length ≤ 1000 * 1000 := Nat.mul_le_mul (by omega) hz; omega, _, r.rep k.toNat, IsTup.new _ _⟩
end
end Dl
end
section
/-! The data logic: slots hold plain data, owned objects stand in a store. -/
namespace Dl
open PySem PySem.Spec PyProof.Rows L2
open Evl (Ex)

abbrev D := PyData
/-- what a slot (or a value) is -/
inductive Kd where
  | und
  | dat (d : D)
  | val (v : V)
  | two (a b : D)
/-- what an owned object holds -/
inductive Ob where
  | ol (ds : List D)
  | od (kvs : List (Str × D))
  | oz (o : Obj) (ws : List (Key × V)) (kvs : List (Str × D))
  | raw (o : HO)
  | okl (ks : List Kd)
abbrev Store := List (Addr × Ob)

mutual
/-- v stands for d; its lists and tuples stand in G -/
inductive DP (G : Hp) : V → D → Prop
  | non : DP G .non .none
  | bl (b : Bool) : DP G (.bl b) (.bool b)
  | int (i : Int) : DP G (.int i) (.int i)
  | str (x : Str) : DP G (.str x) (.str x)
  | lst {a : Addr} {xs : List V} {ds : List D} : G a = some (.lst xs) → DPs G xs ds → DP G (.ref a) (.list ds)
  | tup {a : Addr} {xs : List V} {ds : List D} : PTu G a xs → DPs G xs ds → DP G (.ref a) (.tuple ds)
  | dct {a : Addr} {o : Obj} {ws : List (Key × V)} {kvs : List (D × D)} : G a = some (.frz o (.dK ws)) → DPk G ws kvs → DP G (.ref a) (.dict kvs)
inductive DPs (G : Hp) : List V → List D → Prop
  | nil : DPs G [] []
  | cons {v : V} {vs : List V} {d : D} {ds : List D} : DP G v d → DPs G vs ds → DPs G (v :: vs) (d :: ds)
inductive DPk (G : Hp) : List (Key × V) → List (D × D) → Prop
  | nil : DPk G [] []
  | cons {s : Str} {v : V} {vs : List (Key × V)} {d : D} {ds : List (D × D)} : DP G v d → DPk G vs ds → DPk G ((.inr s, v) :: vs) ((.str s, d) :: ds)
end
def KvD (G : Hp) : List (Key × V) → List (Str × D) → Prop := Paired fun a b => a.1 = Sum.inr b.1 ∧ DP G a.2 b.2
def KdAt (G : Hp) : V → Kd → Prop
  | _, .und => True
  | v, .dat d => DP G v d
  | v, .val w => v = w
  | v, .two d1 d2 => ∃ a x y, v = .ref a ∧ G a = some (.tup [x, y]) ∧ DP G x d1 ∧ DP G y d2
def ObAt (G H : Hp) (p : Addr) : Ob → Prop
  | .ol ds => ∃ vs, H p = some (.lst vs) ∧ DPs G vs ds
  | .od kvs => ∃ ws, H p = some (.dK ws) ∧ KvD G ws kvs
  | .oz o ws kvs => H p = some (.frz o (.dK ws)) ∧ KvD G ws kvs
  | .raw o => H p = some o
  | .okl ks => ∃ vs, H p = some (.lst vs) ∧ Paired (KdAt G) vs ks
def SlAt (G : Hp) : Option V → Kd → Prop
  | _, .und => True
  | some v, k => KdAt G v k
  | none, _ => False
abbrev Slots (G : Hp) : L2.St → List Kd → Prop := Paired (SlAt G)
abbrev Kinds (G : Hp) : List V → List Kd → Prop := Paired (KdAt G)

/-- the state: G0, H0 at the entry (what the caller keeps), G: the plain data, H: all that is tracked -/
structure Sta (G0 H0 G H : Hp) (σ : L2.St) (ss : List Kd) (O : Store) : Prop where
  g0 : Ex G0 G
  h0 : Ex H0 H
  gh : Ex G H
  fr : ∀ a o, G a = some o → G0 a = some o ∨ H0 a = none
  sl : Slots G σ ss
  nd : (O.map (·.1)).Nodup
  ob : ∀ q ∈ O, ObAt G H q.1 q.2 ∧ G q.1 = none ∧ H0 q.1 = none

mutual
/-- no dict in it -/
def nod : D → Bool
  | .list ds => nods ds
  | .tuple ds => nods ds
  | .dict _ => false
  | _ => true
def nods : List D → Bool
  | [] => true
  | d :: ds => nod d && nods ds
end
mutual
theorem dp_of {K : PySem.W.Frag} {G : Hp} : ∀ {v : V} {d : D}, nod d = true → DP G v d → Dp K G v d
  | _, _, _, .non => .non
  | _, _, _, .bl b => .bl b
  | _, _, _, .int i => .int i
  | _, _, _, .str x => .str x
  | _, _, n, .lst h a => .lst (.of h) (dps_of (by unfold nod at n; exact n) a)
  | _, _, n, .tup h a => .tup (h.sq fun _ _ e => e) (dps_of (by unfold nod at n; exact n) a)
  | _, _, n, .dct _ _ => by unfold nod at n; cases n
theorem dps_of {K : PySem.W.Frag} {G : Hp} : ∀ {vs : List V} {ds : List D}, nods ds = true → DPs G vs ds → DpAll K G vs ds
  | _, _, _, .nil => .nil
  | _, _, n, .cons h a => by
    unfold nods at n
    rw [Bool.and_eq_true] at n
    exact .cons (dp_of n.1 h) (dps_of n.2 a)
end
/-! ### data along a heap that grows -/
mutual
theorem dp_ex {H H' : Hp} (e : Ex H H') : ∀ {v : V} {d : D}, DP H v d → DP H' v d
  | _, _, .non => .non
  | _, _, .bl b => .bl b
  | _, _, .int i => .int i
  | _, _, .str x => .str x
  | _, _, .lst h a => .lst (e _ _ h) (dpAll_ex e a)
  | _, _, .tup h a => .tup (h.ex e) (dpAll_ex e a)
  | _, _, .dct h a => .dct (e _ _ h) (dpk_ex e a)
theorem dpAll_ex {H H' : Hp} (e : Ex H H') : ∀ {vs : List V} {ds : List D}, DPs H vs ds → DPs H' vs ds
  | _, _, .nil => .nil
  | _, _, .cons h a => .cons (dp_ex e h) (dpAll_ex e a)
theorem dpk_ex {H H' : Hp} (e : Ex H H') : ∀ {vs : List (Key × V)} {ds : List (D × D)}, DPk H vs ds → DPk H' vs ds
  | _, _, .nil => .nil
  | _, _, .cons h a => .cons (dp_ex e h) (dpk_ex e a)
end
/-- a dict as plain data -/
def dK (kvs : List (Str × D)) : D := .dict (kvs.map fun p => (.str p.1, p.2))
theorem dpk_to {G : Hp} : ∀ {ws : List (Key × V)} {kvs : List (Str × D)}, KvD G ws kvs → DPk G ws (kvs.map fun p => (.str p.1, p.2))
  | _, _, .nil => .nil
  | (_, _) :: _, (_, _) :: _, .cons ⟨e, r⟩ t => by
    cases e
    exact .cons r (dpk_to t)
theorem dpk_of {G : Hp} : ∀ {ws : List (Key × V)} {kvs : List (Str × D)}, DPk G ws (kvs.map fun p => (.str p.1, p.2)) → KvD G ws kvs
  | _, [], h => by cases h; exact .nil
  | _, (s, d) :: kvs, h => by
    cases h with
    | cons r t => exact .cons ⟨rfl, r⟩ (dpk_of t)
theorem kv_ex {H H' : Hp} (e : Ex H H') {ws : List (Key × V)} {kvs : List (Str × D)} (h : KvD H ws kvs) : KvD H' ws kvs := Paired.mapP h fun _ _ q => ⟨q.1, dp_ex e q.2⟩
theorem kd_ex {H H' : Hp} (e : Ex H H') {v : V} : ∀ {k : Kd}, KdAt H v k → KdAt H' v k
  | .und, _ => trivial
  | .two _ _, ⟨a, x, y, h1, h2, h3, h4⟩ => ⟨a, x, y, h1, e _ _ h2, dp_ex e h3, dp_ex e h4⟩
  | .dat _, h => dp_ex e h
  | .val _, h => h
theorem sl_ex {H H' : Hp} (e : Ex H H') : ∀ {o : Option V} {k : Kd}, SlAt H o k → SlAt H' o k
  | _, .und, _ => by cases ‹Option V› <;> trivial
  | some _, .dat _, h => dp_ex e h
  | some _, .val _, h => h
  | some _, .two _ _, ⟨a, x, y, h1, h2, h3, h4⟩ => ⟨a, x, y, h1, e _ _ h2, dp_ex e h3, dp_ex e h4⟩
theorem slots_ex {H H' : Hp} (e : Ex H H') {σ : L2.St} {ss : List Kd} (h : Slots H σ ss) : Slots H' σ ss := Paired.mapP h fun _ _ q => sl_ex e q
theorem kinds_ex {H H' : Hp} (e : Ex H H') {σ : List V} {ss : List Kd} (h : Kinds H σ ss) : Kinds H' σ ss := Paired.mapP h fun _ _ q => kd_ex e q
/-- the object's description, G grown, its own place as it was -/
theorem ob_ex {G G' H H' : Hp} {p : Addr} (e : Ex G G') (h : H' p = H p) : ∀ {b : Ob}, ObAt G H p b → ObAt G' H' p b
  | .ol _, ⟨vs, a, r⟩ => ⟨vs, h.trans a, dpAll_ex e r⟩
  | .od _, ⟨ws, a, r⟩ => ⟨ws, h.trans a, kv_ex e r⟩
  | .oz _ _ _, ⟨a, r⟩ => ⟨h.trans a, kv_ex e r⟩
  | .raw _, a => h.trans a
  | .okl _, ⟨vs, a, r⟩ => ⟨vs, h.trans a, kinds_ex e r⟩
theorem ob_some {G H : Hp} {p : Addr} : ∀ {b : Ob}, ObAt G H p b → ∃ o, H p = some o
  | .ol _, ⟨_, a, _⟩ => ⟨_, a⟩
  | .od _, ⟨_, a, _⟩ => ⟨_, a⟩
  | .oz _ _ _, ⟨a, _⟩ => ⟨_, a⟩
  | .raw _, a => ⟨_, a⟩
  | .okl _, ⟨_, a, _⟩ => ⟨_, a⟩

theorem paired_get {α β : Type} {F : α → β → Prop} : ∀ {xs : List α} {ys : List β} {i : Nat} {y : β}, Paired F xs ys → ys[i]? = some y → ∃ x, xs[i]? = some x ∧ F x y
  | _, _, _, _, .nil, e => by simp at e
  | _, _, 0, _, .cons r _, e => by simp at e; subst e; exact ⟨_, rfl, r⟩
  | _, _, i + 1, y, .cons _ t, e => by
    obtain ⟨u, h1, h2⟩ := paired_get (i := i) (y := y) t (by simpa using e)
    exact ⟨u, by simpa using h1, h2⟩
theorem paired_set {α β : Type} {F : α → β → Prop} {x : α} {y : β} (r : F x y) : ∀ {xs : List α} {ys : List β} (i : Nat), Paired F xs ys → Paired F (xs.set i x) (ys.set i y)
  | _, _, _, .nil => .nil
  | _, _, 0, .cons _ t => .cons r t
  | _, _, i + 1, .cons q t => .cons q (paired_set r i t)
theorem paired_app {α β : Type} {F : α → β → Prop} : ∀ {xs xs' : List α} {ys ys' : List β}, Paired F xs ys → Paired F xs' ys' → Paired F (xs ++ xs') (ys ++ ys')
  | _, _, _, _, .nil, s => s
  | _, _, _, _, .cons r t, s => .cons r (paired_app t s)
theorem paired_len {α β : Type} {F : α → β → Prop} : ∀ {xs : List α} {ys : List β}, Paired F xs ys → xs.length = ys.length
  | _, _, .nil => rfl
  | _, _, .cons _ t => congrArg (· + 1) (paired_len t)
theorem dpAll_of {H : Hp} : ∀ {vs : List V} {ds : List D}, Paired (DP H) vs ds → DPs H vs ds
  | _, _, .nil => .nil
  | _, _, .cons r t => .cons r (dpAll_of t)
theorem dpAll_to {H : Hp} : ∀ {vs : List V} {ds : List D}, DPs H vs ds → Paired (DP H) vs ds
  | _, _, .nil => .nil
  | _, _, .cons r t => .cons r (dpAll_to t)
theorem dpAll_len {H : Hp} {vs : List V} {ds : List D} (h : DPs H vs ds) : vs.length = ds.length := paired_len (dpAll_to h)
theorem dpAll_get {H : Hp} {vs : List V} {ds : List D} {i : Nat} {d : D} (h : DPs H vs ds) (e : ds[i]? = some d) : ∃ v, vs[i]? = some v ∧ DP H v d := paired_get (dpAll_to h) e
theorem dpAll_app {H : Hp} {vs vs' : List V} {ds ds' : List D} (h : DPs H vs ds) (h' : DPs H vs' ds') : DPs H (vs ++ vs') (ds ++ ds') := dpAll_of (paired_app (dpAll_to h) (dpAll_to h'))

section
variable {G0 H0 G H : Hp} {σ : L2.St} {ss : List Kd} {O : Store}
theorem Sta.slot (S : Sta G0 H0 G H σ ss O) {i : Nat} {k : Kd} (h : ss[i]? = some k) (hk : k ≠ .und) : ∃ v, σ[i]? = some (some v) ∧ KdAt G v k := by
  obtain ⟨o, h1, h2⟩ := paired_get S.sl h
  cases o with
  | none => cases k with
    | und => exact absurd rfl hk
    | dat _ => exact h2.elim
    | val _ => exact h2.elim
    | two _ _ => exact h2.elim
  | some v => cases k with
    | und => exact absurd rfl hk
    | dat _ => exact ⟨v, h1, h2⟩
    | val _ => exact ⟨v, h1, h2⟩
    | two _ _ => exact ⟨v, h1, h2⟩
theorem Sta.set (S : Sta G0 H0 G H σ ss O) (i : Nat) {v : V} {k : Kd} (h : KdAt G v k) : Sta G0 H0 G H (σ.set i (some v)) (ss.set i k) O :=
  ⟨S.g0, S.h0, S.gh, S.fr, paired_set (by cases k <;> first | trivial | exact h) i S.sl, S.nd, S.ob⟩
/-- the objects other than those at q keep their places -/
theorem Sta.free (S : Sta G0 H0 G H σ ss O) {p : Addr} (h : H p = none) : G p = none := by
  cases e : G p with
  | none => rfl
  | some o =>
    have := S.gh p o e
    rw [h] at this
    cases this
theorem Sta.free0 (S : Sta G0 H0 G H σ ss O) {p : Addr} (h : H p = none) : H0 p = none := by
  cases e : H0 p with
  | none => rfl
  | some o =>
    have := S.h0 p o e
    rw [h] at this
    cases this
theorem Sta.notIn (S : Sta G0 H0 G H σ ss O) {p : Addr} (h : H p = none) : p ∉ O.map (·.1) := fun hp => by
  obtain ⟨q, hq, e⟩ := List.mem_map.mp hp
  obtain ⟨o, ho⟩ := ob_some (S.ob q hq).1
  rw [e, h] at ho
  cases ho
/-- a new piece of data -/
theorem Sta.data (S : Sta G0 H0 G H σ ss O) {p : Addr} (h : H p = none) (o : HO) : Sta G0 H0 (upd G p o) (upd H p o) σ ss O := by
  have eg : Ex G (upd G p o) := Ex.new (S.free h)
  refine ⟨S.g0.trans eg, S.h0.trans (Ex.new h), fun a u e => ?_, fun a u e => ?_, slots_ex eg S.sl, S.nd, fun q hq => ?_⟩
  · by_cases ha : a = p
    · subst ha; rw [upd_same] at e ⊢; exact e
    · rw [upd_ne ha] at e ⊢; exact S.gh a u e
  · by_cases ha : a = p
    · subst ha; exact .inr (S.free0 h)
    · rw [upd_ne ha] at e; exact S.fr a u e
  · obtain ⟨a, b, c⟩ := S.ob q hq
    obtain ⟨u, hu⟩ := ob_some a
    have ne : q.1 ≠ p := fun z => by rw [z, h] at hu; cases hu
    exact ⟨ob_ex eg (upd_ne ne) a, by rw [upd_ne ne]; exact b, c⟩
/-- a new owned object -/
theorem Sta.new (S : Sta G0 H0 G H σ ss O) {p : Addr} (h : H p = none) {o : HO} {b : Ob} (hb : ObAt G (upd H p o) p b) : Sta G0 H0 G (upd H p o) σ ss ((p, b) :: O) := by
  refine ⟨S.g0, S.h0.trans (Ex.new h), S.gh.trans (Ex.new h), S.fr, S.sl, List.nodup_cons.mpr ⟨S.notIn h, S.nd⟩, fun q hq => ?_⟩
  rcases List.mem_cons.mp hq with rfl | hq
  · exact ⟨hb, S.free h, S.free0 h⟩
  · obtain ⟨a, b, c⟩ := S.ob q hq
    obtain ⟨u, hu⟩ := ob_some a
    have ne : q.1 ≠ p := fun z => by rw [z, h] at hu; cases hu
    exact ⟨ob_ex (fun _ _ e => e) (upd_ne ne) a, b, c⟩
theorem nd_get {O : Store} {i j : Nat} {a b : Addr × Ob} (h : (O.map (·.1)).Nodup) (hi : O[i]? = some a) (hj : O[j]? = some b) (e : a.1 = b.1) : i = j := by
  have h1 : (O.map (·.1))[i]? = some a.1 := by rw [List.getElem?_map, hi]; rfl
  have h2 : (O.map (·.1))[j]? = some a.1 := by rw [List.getElem?_map, hj, e]; rfl
  obtain ⟨l1, e1⟩ := List.getElem?_eq_some_iff.mp h1
  obtain ⟨l2, e2⟩ := List.getElem?_eq_some_iff.mp h2
  exact (List.getElem_inj h).mp (e1.trans e2.symm)
/-- an owned object changes -/
theorem Sta.put (S : Sta G0 H0 G H σ ss O) {i : Nat} {p : Addr} {b0 b : Ob} (hi : O[i]? = some (p, b0)) {o : HO} (hb : ObAt G (upd H p o) p b) : Sta G0 H0 G (upd H p o) σ ss (O.set i (p, b)) := by
  obtain ⟨_, gp, hp⟩ := S.ob _ (List.mem_of_getElem? hi)
  have keys : (O.set i (p, b)).map (·.1) = O.map (·.1) := by
    rw [List.map_set]
    have : (O.map (·.1))[i]? = some p := by rw [List.getElem?_map, hi]; rfl
    obtain ⟨l, e⟩ := List.getElem?_eq_some_iff.mp this
    show (O.map (·.1)).set i p = _
    rw [← e]
    exact List.set_getElem_self l
  refine ⟨S.g0, Ex.mut S.h0 hp, Ex.mut S.gh gp, S.fr, S.sl, by rw [keys]; exact S.nd, fun q hq => ?_⟩
  obtain ⟨j, hj⟩ := List.mem_iff_getElem?.mp hq
  by_cases e : i = j
  · subst e
    rw [List.getElem?_set_self (List.getElem?_eq_some_iff.mp hi).1] at hj
    cases hj
    exact ⟨hb, gp, hp⟩
  · rw [List.getElem?_set_ne e] at hj
    have ne : q.1 ≠ p := fun z => e (nd_get S.nd hi hj z.symm)
    obtain ⟨a, b, c⟩ := S.ob q (List.mem_of_getElem? hj)
    exact ⟨ob_ex (fun _ _ e => e) (upd_ne ne) a, b, c⟩
/-- an owned list becomes plain data -/
theorem Sta.freeze (S : Sta G0 H0 G H σ ss O) {i : Nat} {p : Addr} {ds : List D} (hi : O[i]? = some (p, .ol ds)) : ∃ G', Sta G0 H0 G' H σ ss (O.eraseIdx i) ∧ Ex G G' ∧ DP G' (.ref p) (.list ds) := by
  obtain ⟨⟨vs, hv, ha⟩, gp, hp⟩ := S.ob _ (List.mem_of_getElem? hi)
  have eg : Ex G (upd G p (.lst vs)) := Ex.new gp
  refine ⟨upd G p (.lst vs), ⟨S.g0.trans eg, S.h0, fun a u e => ?_, fun a u e => ?_, slots_ex eg S.sl, ?_, fun q hq => ?_⟩, eg, .lst upd_same (dpAll_ex eg ha)⟩
  · by_cases h : a = p
    · subst h; rw [upd_same] at e; rw [← e]; exact hv
    · rw [upd_ne h] at e; exact S.gh a u e
  · by_cases h : a = p
    · subst h; exact .inr hp
    · rw [upd_ne h] at e; exact S.fr a u e
  · exact S.nd.sublist ((List.eraseIdx_sublist O i).map _)
  · obtain ⟨j, hj, e⟩ := List.mem_eraseIdx_iff_getElem?.mp hq
    have ne : q.1 ≠ p := fun z => hj (nd_get S.nd e hi z)
    obtain ⟨a, b, c⟩ := S.ob q (List.mem_of_getElem? e)
    exact ⟨ob_ex eg rfl a, by rw [upd_ne ne]; exact b, c⟩
/-- an owned dict becomes plain data (locked from then on) -/
theorem Sta.freezeD (S : Sta G0 H0 G H σ ss O) {i : Nat} {p : Addr} {kvs : List (Str × D)} (hi : O[i]? = some (p, .od kvs)) : ∃ ws, H p = some (.dK ws) ∧ ∀ od, Sta G0 H0 (upd G p (.frz od (.dK ws))) (upd H p (.frz od (.dK ws))) σ ss (O.eraseIdx i) ∧ Ex G (upd G p (.frz od (.dK ws))) ∧ DP (upd G p (.frz od (.dK ws))) (.ref p) (dK kvs) := by
  obtain ⟨⟨ws, hv, ha⟩, gp, hp⟩ := S.ob _ (List.mem_of_getElem? hi)
  refine ⟨ws, hv, fun od => ?_⟩
  have eg : Ex G (upd G p (.frz od (.dK ws))) := Ex.new gp
  refine ⟨⟨S.g0.trans eg, Ex.mut S.h0 hp, fun a u e => ?_, fun a u e => ?_, slots_ex eg S.sl, ?_, fun q hq => ?_⟩, eg, .dct upd_same (dpk_ex eg (dpk_to ha))⟩
  · by_cases h : a = p
    · subst h; rw [upd_same] at e ⊢; exact e
    · rw [upd_ne h] at e ⊢; exact S.gh a u e
  · by_cases h : a = p
    · subst h; exact .inr hp
    · rw [upd_ne h] at e; exact S.fr a u e
  · exact S.nd.sublist ((List.eraseIdx_sublist O i).map _)
  · obtain ⟨j, hj, e⟩ := List.mem_eraseIdx_iff_getElem?.mp hq
    have ne : q.1 ≠ p := fun z => hj (nd_get S.nd e hi z)
    obtain ⟨a, b, c⟩ := S.ob q (List.mem_of_getElem? e)
    exact ⟨ob_ex eg (upd_ne ne) a, by rw [upd_ne ne]; exact b, c⟩
/-- fewer owned objects, other slots -/
theorem Sta.less (S : Sta G0 H0 G H σ ss O) {O' : Store} (h : ∀ q ∈ O', q ∈ O) (nd : (O'.map (·.1)).Nodup) : Sta G0 H0 G H σ ss O' := ⟨S.g0, S.h0, S.gh, S.fr, S.sl, nd, fun q hq => S.ob q (h q hq)⟩
/-- the first object told otherwise -/
theorem Sta.cast {p : Addr} {b b' : Ob} (S : Sta G0 H0 G H σ ss ((p, b) :: O)) (h : ObAt G H p b → ObAt G H p b') : Sta G0 H0 G H σ ss ((p, b') :: O) :=
  ⟨S.g0, S.h0, S.gh, S.fr, S.sl, S.nd, fun q hq => by
    rcases List.mem_cons.mp hq with rfl | hq
    · exact ⟨h (S.ob _ List.mem_cons_self).1, (S.ob _ List.mem_cons_self).2⟩
    · exact S.ob q (List.mem_cons_of_mem _ hq)⟩
theorem Sta.slots (S : Sta G0 H0 G H σ ss O) {σ' : L2.St} {ss' : List Kd} (h : Slots G σ' ss') : Sta G0 H0 G H σ' ss' O := ⟨S.g0, S.h0, S.gh, S.fr, h, S.nd, S.ob⟩
end
end Dl
end
section
namespace Dl
open PySem PySem.Spec PyProof.Rows L2
open Evl (Ex)

def noStar : Expr → Bool
  | .Starred _ _ => false
  | _ => true
theorem star_ne {e : Expr} {es : List Expr} {env : Env} (h : noStar e = true) : starEach (e :: es) env = (false, eval e env) :: starEach es env := by
  cases e <;> first | rfl | cases h
/-! ### the widest readings -/
structure WE_ (X : Cx) (e : Expr) (σ : L2.St) (H : Hp) (Q : VK) : Prop where
  run : ∀ pins s, Inv X pins σ H s → wpAny (model X.prog X.w) X.A (eval e X.env) (EP X pins σ Q) X.xe s
def wE (X : Cx) (e : Expr) : TE := WE_ X e
structure WT_ (X : Cx) (e : Expr) (σ : L2.St) (H : Hp) (Q : Bool → Hp → Prop) : Prop where
  run : ∀ pins s, Inv X pins σ H s → wpAny (model X.prog X.w) X.A (isTrue e X.env (eval e X.env)) (TP X pins σ Q) X.xe s
def wT (X : Cx) (e : Expr) : TT := WT_ X e
structure WA_ (X : Cx) (es : List Expr) (σ : L2.St) (H : Hp) (Q : List V → Hp → Prop) : Prop where
  run : ∀ pos pins s, Inv X pins σ H s → wpAny (model X.prog X.w) X.A (spliced (backTo pos (starEach es X.env))) (AP X pins σ Q) X.xe s
def wA (X : Cx) (es : List Expr) : TA := WA_ X es
structure WS_ (X : Cx) (st : Stmt) (D : Ends) (σ : L2.St) (H : Hp) : Prop where
  run : ∀ pins s, Inv X pins σ H s → wpAny (model X.prog X.w) X.A (exec st X.env) (SP X pins D) X.xe s
def wS (X : Cx) (st : Stmt) : TS := WS_ X st
structure WSS_ (X : Cx) (sts : List Stmt) (D : Ends) (σ : L2.St) (H : Hp) : Prop where
  run : ∀ pins s, Inv X pins σ H s → wpAny (model X.prog X.w) X.A (execs sts X.env) (SP X pins D) X.xe s
def wSs (X : Cx) (sts : List Stmt) : TS := WSS_ X sts
def wX (X : Cx) : WX := fun cls d σ H => ∀ u s', XE X (fun c' d' σ' H' => c' = cls ∧ d' = d ∧ σ' = σ ∧ H' = H) u s' → X.xe u s'
section
variable {X : Cx}
theorem peW {e : Expr} : PE X e (wE X e) := ⟨fun pins s _ _ _ I h => h.run pins s I⟩
theorem ptW {e : Expr} : PT X e (wT X e) := ⟨fun pins s _ _ _ I h => h.run pins s I⟩
theorem paW {es : List Expr} : PA X es (wA X es) := ⟨fun pos pins s _ _ _ I h => h.run pos pins s I⟩
theorem psW {st : Stmt} : PS X st (wS X st) := ⟨fun pins s _ _ _ I h => h.run pins s I⟩
theorem pssW {sts : List Stmt} : PSs X sts (wSs X sts) := ⟨fun pins s _ _ _ I h => h.run pins s I⟩
theorem wE_of {e : Expr} {t : TE} (h : PE X e t) {σ : L2.St} {H : Hp} {Q : VK} (q : t σ H Q) : wE X e σ H Q := ⟨fun pins s I => h.run pins s σ H Q I q⟩
theorem wT_of {e : Expr} {t : TT} (h : PT X e t) {σ : L2.St} {H : Hp} {Q : Bool → Hp → Prop} (q : t σ H Q) : wT X e σ H Q := ⟨fun pins s I => h.run pins s σ H Q I q⟩
theorem wA_of {es : List Expr} {t : TA} (h : PA X es t) {σ : L2.St} {H : Hp} {Q : List V → Hp → Prop} (q : t σ H Q) : wA X es σ H Q := ⟨fun pos pins s I => h.run pos pins s σ H Q I q⟩
theorem wS_of {st : Stmt} {t : TS} (h : PS X st t) {D : Ends} {σ : L2.St} {H : Hp} (q : t D σ H) : wS X st D σ H := ⟨fun pins s I => h.run pins s σ H D I q⟩
theorem wSs_of {sts : List Stmt} {t : TS} (h : PSs X sts t) {D : Ends} {σ : L2.St} {H : Hp} (q : t D σ H) : wSs X sts D σ H := ⟨fun pins s I => h.run pins s σ H D I q⟩
theorem takesW : Takes X (wX X) := fun u s' ⟨a, B, sI, pins, σ, H, cls, d, e, I, nb, up, sky, na, os, ag, w⟩ =>
  w u s' ⟨a, B, sI, pins, σ, H, cls, d, e, I, nb, up, sky, na, os, ag, rfl, rfl, rfl, rfl⟩
theorem wX_of {cls : Value} {d : Option Addr} {σ : L2.St} {H : Hp} {W : WX} (t : Takes X W) (h : W cls d σ H) : wX X cls d σ H := fun u s' x =>
  t u s' (by
    obtain ⟨a, B, sI, pins, σ', H', cls', d', e, I, nb, up, sky, na, os, ag, h1, h2, h3, h4⟩ := x
    subst h1 h2 h3 h4
    exact ⟨a, B, sI, pins, _, _, _, _, e, I, nb, up, sky, na, os, ag, h⟩)
end

/-! ### judgements over data -/
/-- the classes of R may be raised -/
def Lt (X : Cx) (R : Addr → Prop) (H0 : Hp) : Prop := ∀ C, R C → ∀ σ H', Ex H0 H' → wX X (.ref C) none σ H'
abbrev No : Addr → Prop := fun _ => False
theorem Lt.no {X : Cx} {H0 : Hp} : Lt X No H0 := fun _ h => h.elim
/-- what is wanted behind an expression -/
def Wt (X : Cx) (G0 H0 G : Hp) (σ : L2.St) (ss : List Kd) (Φ : Kd → Store → Prop) (Q : VK) : Prop :=
  ∀ G' H' v k O', Sta G0 H0 G' H' σ ss O' → Ex G G' → KdAt G' v k → Φ k O' → Q v H'
theorem Wt.d {X : Cx} {G0 H0 G G' H' : Hp} {σ : L2.St} {ss : List Kd} {Φ : Kd → Store → Prop} {Q : VK} {v : V} {d : D} {O' : Store} (h : Wt X G0 H0 G σ ss Φ Q) (S : Sta G0 H0 G' H' σ ss O') (e : Ex G G') (r : DP G' v d) (p : Φ (.dat d) O') : Q v H' := h G' H' v (.dat d) O' S e r p
theorem Wt.v {X : Cx} {G0 H0 G G' H' : Hp} {σ : L2.St} {ss : List Kd} {Φ : Kd → Store → Prop} {Q : VK} {v : V} {O' : Store} (h : Wt X G0 H0 G σ ss Φ Q) (S : Sta G0 H0 G' H' σ ss O') (e : Ex G G') (p : Φ (.val v) O') : Q v H' := h G' H' v (.val v) O' S e rfl p
def EJ (X : Cx) (R : Addr → Prop) (e : Expr) (ss : List Kd) (O : Store) (Φ : Kd → Store → Prop) : Prop :=
  ∀ G0 H0 G H σ, Sta G0 H0 G H σ ss O → Lt X R H0 → ∀ Q : VK, Wt X G0 H0 G σ ss Φ Q → wE X e σ H Q
def TJ (X : Cx) (R : Addr → Prop) (e : Expr) (ss : List Kd) (O : Store) (Φ : Bool → Store → Prop) : Prop :=
  ∀ G0 H0 G H σ, Sta G0 H0 G H σ ss O → Lt X R H0 → ∀ Q : Bool → Hp → Prop, (∀ G' H' b O', Sta G0 H0 G' H' σ ss O' → Ex G G' → Φ b O' → Q b H') → wT X e σ H Q
def AJ (X : Cx) (R : Addr → Prop) (es : List Expr) (ss : List Kd) (O : Store) (Φ : List Kd → Store → Prop) : Prop :=
  ∀ G0 H0 G H σ, Sta G0 H0 G H σ ss O → Lt X R H0 → ∀ Q : List V → Hp → Prop, (∀ G' H' vs ks O', Sta G0 H0 G' H' σ ss O' → Ex G G' → Kinds G' vs ks → Φ ks O' → Q vs H') → wA X es σ H Q
def EV (X : Cx) (R : Addr → Prop) (e : Expr) (ss : List Kd) (O : Store) (k : Kd) (O' : Store) : Prop := EJ X R e ss O fun k1 O1 => k1 = k ∧ O1 = O'
/-- a new object -/
def EN (X : Cx) (R : Addr → Prop) (e : Expr) (ss : List Kd) (O : Store) (b : Ob) (O' : Store) : Prop := EJ X R e ss O fun k1 O1 => ∃ p, k1 = .val (.ref p) ∧ O1 = (p, b) :: O'
def TV (X : Cx) (R : Addr → Prop) (e : Expr) (ss : List Kd) (O : Store) (b : Bool) (O' : Store) : Prop := TJ X R e ss O fun b1 O1 => b1 = b ∧ O1 = O'
def AV (X : Cx) (R : Addr → Prop) (es : List Expr) (ss : List Kd) (O : Store) (ks : List Kd) (O' : Store) : Prop := AJ X R es ss O fun k1 O1 => k1 = ks ∧ O1 = O'
/-- two values to one, one value to one, some values to one -/
def OJ (X : Cx) (r : R2) (ka kb : Kd) (O : Store) (Φ : Kd → Store → Prop) : Prop :=
  ∀ G0 H0 G H σ ss x y, Sta G0 H0 G H σ ss O → KdAt G x ka → KdAt G y kb → ∀ Q : VK, Wt X G0 H0 G σ ss Φ Q → r x y H Q
def UJ (X : Cx) (r : V → Hp → VK → Prop) (ka : Kd) (O : Store) (Φ : Kd → Store → Prop) : Prop :=
  ∀ G0 H0 G H σ ss x, Sta G0 H0 G H σ ss O → KdAt G x ka → ∀ Q : VK, Wt X G0 H0 G σ ss Φ Q → r x H Q
def CJ (X : Cx) (r : List V → Hp → VK → Prop) (ks : List Kd) (O : Store) (Φ : Kd → Store → Prop) : Prop :=
  ∀ G0 H0 G H σ ss xs, Sta G0 H0 G H σ ss O → Kinds G xs ks → ∀ Q : VK, Wt X G0 H0 G σ ss Φ Q → r xs H Q
def MJ (X : Cx) (r : V → List V → Hp → VK → Prop) (k : Kd) (ks : List Kd) (O : Store) (Φ : Kd → Store → Prop) : Prop :=
  ∀ G0 H0 G H σ ss x xs, Sta G0 H0 G H σ ss O → KdAt G x k → Kinds G xs ks → ∀ Q : VK, Wt X G0 H0 G σ ss Φ Q → r x xs H Q
def isK (k : Kd) (O : Store) : Kd → Store → Prop := fun k1 O1 => k1 = k ∧ O1 = O
def isN (b : Ob) (O : Store) : Kd → Store → Prop := fun k1 O1 => ∃ p, k1 = .val (.ref p) ∧ O1 = (p, b) :: O

section
variable {X : Cx} {R : Addr → Prop} {e a b c : Expr} {es : List Expr} {ss : List Kd} {O O1 O2 O' : Store} {k ka kb : Kd} {ks : List Kd} {Φ Ψ : Kd → Store → Prop} {pos : Pos}
theorem Wt.imp {G0 H0 G : Hp} {σ : L2.St} {Q : VK} (h : Wt X G0 H0 G σ ss Φ Q) (i : ∀ k O, Ψ k O → Φ k O) : Wt X G0 H0 G σ ss Ψ Q := fun G' H' v k O' S e q p => h G' H' v k O' S e q (i _ _ p)
theorem Wt.ex {G0 H0 G G1 : Hp} {σ : L2.St} {Q : VK} (h : Wt X G0 H0 G σ ss Φ Q) (e : Ex G G1) : Wt X G0 H0 G1 σ ss Φ Q := fun G' H' v k O' S e1 q p => h G' H' v k O' S (e.trans e1) q p
theorem EJ.imp (h : EJ X R e ss O Φ) (i : ∀ k O, Φ k O → Ψ k O) : EJ X R e ss O Ψ := fun G0 H0 G H σ S L Q q => h G0 H0 G H σ S L Q (q.imp i)
theorem EJ.no (h : EJ X No e ss O Φ) : EJ X R e ss O Φ := fun G0 H0 G H σ S _ Q q => h G0 H0 G H σ S Lt.no Q q
theorem EV.to (h : EV X R e ss O k O') (i : Φ k O') : EJ X R e ss O Φ := EJ.imp h fun _ _ ⟨e1, e2⟩ => by subst e1 e2; exact i
theorem EV.no (h : EV X No e ss O k O') : EV X R e ss O k O' := EJ.no h
theorem OJ.imp {r : R2} (h : OJ X r ka kb O Φ) (i : ∀ k O, Φ k O → Ψ k O) : OJ X r ka kb O Ψ := fun G0 H0 G H σ ss x y S h1 h2 Q q => h G0 H0 G H σ ss x y S h1 h2 Q (q.imp i)

/-! ### names, constants -/
theorem ev_var (i : Nat) {x : Str} {k : Kd} (hk : ss[i]? = some k) (hu : k ≠ .und) (hN : X.N[i]? = some x) (hv : Vis X.env.scope x) (hd : (x == ("__debug__" : Str)) = false := by decide) (hcd : (x == ("__classdict__" : Str)) = false := by decide) : EV X R (.Name x pos) ss O k O :=
  fun G0 H0 G H σ S L Q q => wE_of (pe_var hN hv hd hcd) (by
    obtain ⟨v, h1, h2⟩ := S.slot hk hu
    exact ⟨v, h1, q G H v k O S (Ex.refl G) h2 ⟨rfl, rfl⟩⟩)
theorem ev_int {i : Int} {j : Nat} : EV X R (.Constant (.int i) j pos) ss O (.dat (.int i)) O := fun G0 H0 G H σ S L Q q => wE_of pe_int (q.d S (Ex.refl G) (DP.int i) ⟨rfl, rfl⟩)
theorem ev_bl {b : Bool} {j : Nat} : EV X R (.Constant (.bool b) j pos) ss O (.dat (.bool b)) O := fun G0 H0 G H σ S L Q q => wE_of pe_bl (q.d S (Ex.refl G) (DP.bl b) ⟨rfl, rfl⟩)
theorem ev_non {j : Nat} : EV X R (.Constant .none j pos) ss O (.dat .none) O := fun G0 H0 G H σ S L Q q => wE_of pe_non (q.d S (Ex.refl G) DP.non ⟨rfl, rfl⟩)
theorem ev_str {x : Str} {j : Nat} : EV X R (.Constant (.str x) j pos) ss O (.dat (.str x)) O := fun G0 H0 G H σ S L Q q => wE_of pe_str (q.d S (Ex.refl G) (DP.str x) ⟨rfl, rfl⟩)
/-- a written text, by another name of it -/
theorem ev_strE {x y : Str} {j : Nat} (h : x = y) : EV X R (.Constant (.str x) j pos) ss O (.dat (.str y)) O := by subst h; exact ev_str
/-- a module's constant -/
theorem ev_globS {x s : Str} (hg : Gl X x) (hm : ∃ t, X.mg x = some (.str s t)) (hd : (x == ("__debug__" : Str)) = false := by decide) : EV X R (.Name x pos) ss O (.dat (.str s)) O := fun G0 H0 G H σ S L Q q => by
  obtain ⟨t, hm⟩ := hm
  exact wE_of (pe_glob (v := .str s) hg hm ⟨_, rfl⟩ hd) (q.d S (Ex.refl G) (DP.str s) ⟨rfl, rfl⟩)
theorem ev_globI {x : Str} {i : Int} (hg : Gl X x) (hm : ∃ t, X.mg x = some (.int i t)) (hd : (x == ("__debug__" : Str)) = false := by decide) : EV X R (.Name x pos) ss O (.dat (.int i)) O := fun G0 H0 G H σ S L Q q => by
  obtain ⟨t, hm⟩ := hm
  exact wE_of (pe_glob (v := .int i) hg hm ⟨_, rfl⟩ hd) (q.d S (Ex.refl G) (DP.int i) ⟨rfl, rfl⟩)
/-- a def, a class, as a value -/
theorem ev_globR {x : Str} {f : Addr} (hg : Gl X x) (hm : X.mg x = some (.ref f)) (hd : (x == ("__debug__" : Str)) = false := by decide) : EV X R (.Name x pos) ss O (.val (.ref f)) O := fun G0 H0 G H σ S L Q q =>
  wE_of (pe_glob (v := .ref f) hg hm rfl hd) (q.v S (Ex.refl G) ⟨rfl, rfl⟩)
/-- a built-in class as a value -/
theorem ev_ty {x : Str} {n : String} (hg : Gl X x) (hm : X.mg x = none) (hv : bootBuiltins x = some (.type n)) (hn : x ≠ "__name__" := by decide) (hd : (x == ("__debug__" : Str)) = false := by decide) : EV X R (.Name x pos) ss O (.val (.ty n)) O := fun G0 H0 G H σ S L Q q =>
  wE_of (pe_bltn (v := .ty n) hg hm hv rfl hn hd) (q.v S (Ex.refl G) ⟨rfl, rfl⟩)

/-! ### operators -/
theorem ej_op {op : Operator} {r : R2} {Φa : Kd → Store → Prop} (ho : OpR X (binaryOp op) r) (ha : EJ X R a ss O Φa) (hb : ∀ k O1, Φa k O1 → EJ X R b ss O1 fun k' O2 => OJ X r k k' O2 Φ) : EJ X R (.BinOp a op b pos) ss O Φ :=
  fun G0 H0 G H σ S L Q q => wE_of (pe_op ho peW peW) (ha G0 H0 G H σ S L _ fun G1 H1 v k O1 S1 e1 r1 h1 =>
    hb k O1 h1 G0 H0 G1 H1 σ S1 L _ fun G2 H2 v2 k2 O2 S2 e2 r2 h2 => h2 G0 H0 G2 H2 σ ss v v2 S2 (kd_ex e2 r1) r2 Q (q.ex (e1.trans e2)))
theorem ev_op {op : Operator} {r : R2} (ho : OpR X (binaryOp op) r) (ha : EV X R a ss O ka O1) (hb : EV X R b ss O1 kb O2) (h : OJ X r ka kb O2 Φ) : EJ X R (.BinOp a op b pos) ss O Φ :=
  ej_op ho ha fun _ _ ⟨e1, e2⟩ => by subst e1 e2; exact hb.to h
theorem ev_un {op : UnaryOp} {r : V → Hp → VK → Prop} (ho : UnR X (unaryOp op) r) (ha : EV X R a ss O ka O1) (h : UJ X r ka O1 Φ) : EJ X R (.UnaryOp op a pos) ss O Φ :=
  fun G0 H0 G H σ S L Q q => wE_of (pe_un ho peW) (ha G0 H0 G H σ S L _ fun G1 H1 v k O1 S1 e1 r1 ⟨h1, h2⟩ => by subst h1 h2; exact h G0 H0 G1 H1 σ ss v S1 r1 Q (q.ex e1))
theorem ev_cmp {op : CmpOp} {r : R2} (ho : OpR X (compareOp op) r) (ha : EV X R a ss O ka O1) (hb : EV X R b ss O1 kb O2) (h : OJ X r ka kb O2 Φ) (hm : behindInMarks op b = false) : EJ X R (.Compare a [op] [b] pos) ss O Φ :=
  fun G0 H0 G H σ S L Q q => wE_of (pe_cmpR ho peW peW hm) (ha G0 H0 G H σ S L _ fun G1 H1 v k O1 S1 e1 r1 ⟨h1, h2⟩ => by
    subst h1 h2
    exact hb G0 H0 G1 H1 σ S1 L _ fun G2 H2 v2 k2 O2 S2 e2 r2 ⟨h3, h4⟩ => by subst h3 h4; exact h G0 H0 G2 H2 σ ss v v2 S2 (kd_ex e2 r1) r2 Q (q.ex (e1.trans e2)))
/-- an expression that gives a bool, as a test -/
theorem tv_val {b : Bool} (h : EV X R e ss O (.dat (.bool b)) O') (he : ∀ whole, isTrue e X.env whole = (do let v ← whole; standAt e.pos; holding [v] (truthy v)) := by intro _; rfl) : TV X R e ss O b O' :=
  fun G0 H0 G H σ S L Q q => wT_of (pt_val peW he) (h G0 H0 G H σ S L _ fun G1 H1 v k O1 S1 e1 r1 ⟨h1, h2⟩ => by
    subst h1 h2
    cases r1
    exact ⟨b, rfl, q G1 H1 b _ S1 e1 ⟨rfl, rfl⟩⟩)
theorem tv_cmp {op : CmpOp} {r : R2} {b' : Bool} (ho : OpR X (compareOp op) r) (ha : EV X R a ss O ka O1) (hb : EV X R b ss O1 kb O2) (h : OJ X r ka kb O2 (isK (.dat (.bool b')) O')) (hm : behindInMarks op b = false) : TV X R (.Compare a [op] [b] pos) ss O b' O' :=
  fun G0 H0 G H σ S L Q q => wT_of (pt_cmpR ho peW peW hm) (ha G0 H0 G H σ S L _ fun G1 H1 v k O1 S1 e1 r1 ⟨h1, h2⟩ => by
    subst h1 h2
    exact hb G0 H0 G1 H1 σ S1 L _ fun G2 H2 v2 k2 O2 S2 e2 r2 ⟨h3, h4⟩ => by
      subst h3 h4
      exact h G0 H0 G2 H2 σ ss v v2 S2 (kd_ex e2 r1) r2 _ fun G3 H3 v3 k3 O3 S3 e3 r3 ⟨h5, h6⟩ => by
        subst h5 h6
        cases r3
        exact ⟨b', rfl, q G3 H3 b' _ S3 ((e1.trans e2).trans e3) ⟨rfl, rfl⟩⟩)
theorem tv_and1 {b' : Bool} (h : TV X R a ss O b' O') : TV X R (.BoolOp .And [a] pos) ss O b' O' := fun G0 H0 G H σ S L Q q => wT_of (pw_and1 ptW).pt (h G0 H0 G H σ S L Q q)
theorem tv_or1 {b' : Bool} (h : TV X R a ss O b' O') : TV X R (.BoolOp .Or [a] pos) ss O b' O' := fun G0 H0 G H σ S L Q q => wT_of (pw_or1 ptW).pt (h G0 H0 G H σ S L Q q)
structure WW_ (X : Cx) (e : Expr) (σ : L2.St) (H : Hp) (Q : Bool → Hp → Prop) : Prop where
  run : ∀ whole pins s, Inv X pins σ H s → wpAny (model X.prog X.w) X.A (isTrue e X.env whole) (TP X pins σ Q) X.xe s
def wW (X : Cx) (e : Expr) : TT := WW_ X e
theorem pwW {X : Cx} {e : Expr} : PW X e (wW X e) := ⟨fun wh pins s _ _ _ I h => h.run wh pins s I⟩
/-- a test whatever its whole is (and, or) -/
def WV (X : Cx) (R : Addr → Prop) (e : Expr) (ss : List Kd) (O : Store) (b : Bool) (O' : Store) : Prop :=
  ∀ G0 H0 G H σ, Sta G0 H0 G H σ ss O → Lt X R H0 → ∀ Q : Bool → Hp → Prop, (∀ G' H', Sta G0 H0 G' H' σ ss O' → Ex G G' → Q b H') → wW X e σ H Q
theorem WV.tv {b' : Bool} (h : WV X R e ss O b' O') : TV X R e ss O b' O' := fun G0 H0 G H σ S L Q q => wT_of pwW.pt (h G0 H0 G H σ S L Q fun G' H' S' e' => q G' H' b' O' S' e' ⟨rfl, rfl⟩)
theorem wv_and1 {b' : Bool} (h : TV X R a ss O b' O') : WV X R (.BoolOp .And [a] pos) ss O b' O' := fun G0 H0 G H σ S L Q q => ⟨fun wh pins s I => (pw_and1 ptW).run wh pins s σ H Q I (h G0 H0 G H σ S L Q fun G' H' b O1 S' e' ⟨h1, h2⟩ => by subst h1 h2; exact q G' H' S' e')⟩
theorem wv_or1 {b' : Bool} (h : TV X R a ss O b' O') : WV X R (.BoolOp .Or [a] pos) ss O b' O' := fun G0 H0 G H σ S L Q q => ⟨fun wh pins s I => (pw_or1 ptW).run wh pins s σ H Q I (h G0 H0 G H σ S L Q fun G' H' b O1 S' e' ⟨h1, h2⟩ => by subst h1 h2; exact q G' H' S' e')⟩
/-- the second is asked where the first holds; O' the store behind either way -/
theorem wv_and {b1 b2 : Bool} (h : TV X R a ss O b1 O1) (h2 : b1 = true → WV X R (.BoolOp .And (b :: es) pos) ss O1 b2 O') (h3 : b1 = false → O' = O1) : WV X R (.BoolOp .And (a :: b :: es) pos) ss O (b1 && b2) O' :=
  fun G0 H0 G H σ S L Q q => ⟨fun wh pins s I => (pw_and ptW pwW).run wh pins s σ H Q I (h G0 H0 G H σ S L _ fun G1 H1 c O1 S1 e1 ⟨h4, h5⟩ => by
    subst h4 h5
    cases c with
    | true =>
      show wW X _ σ H1 Q
      exact h2 rfl G0 H0 G1 H1 σ S1 L Q fun G' H' S' e' => q G' H' S' (e1.trans e')
    | false =>
      show Q false H1
      have := h3 rfl
      subst this
      exact q G1 H1 S1 e1)⟩
theorem wv_or {b1 b2 : Bool} (h : TV X R a ss O b1 O1) (h2 : b1 = false → WV X R (.BoolOp .Or (b :: es) pos) ss O1 b2 O') (h3 : b1 = true → O' = O1) : WV X R (.BoolOp .Or (a :: b :: es) pos) ss O (b1 || b2) O' :=
  fun G0 H0 G H σ S L Q q => ⟨fun wh pins s I => (pw_or ptW pwW).run wh pins s σ H Q I (h G0 H0 G H σ S L _ fun G1 H1 c O1 S1 e1 ⟨h4, h5⟩ => by
    subst h4 h5
    cases c with
    | false =>
      show wW X _ σ H1 Q
      exact h2 rfl G0 H0 G1 H1 σ S1 L Q fun G' H' S' e' => q G' H' S' (e1.trans e')
    | true =>
      show Q true H1
      have := h3 rfl
      subst this
      exact q G1 H1 S1 e1)⟩
theorem tv_not {b' : Bool} (h : TV X R a ss O b' O') : TV X R (.UnaryOp .Not a pos) ss O (!b') O' := fun G0 H0 G H σ S L Q q => wT_of (pt_not ptW) (h G0 H0 G H σ S L _ fun G' H' b O1 S' e' ⟨h1, h2⟩ => by subst h1 h2; exact q G' H' _ _ S' e' ⟨rfl, rfl⟩)
/-- and, or, not as values -/
theorem ev_one {op : BoolOp} (h : EV X R a ss O k O') : EV X R (.BoolOp op [a] pos) ss O k O' := fun G0 H0 G H σ S L Q q => wE_of (pe_one peW) (h G0 H0 G H σ S L Q q)
theorem ev_and {b1 b2 : Bool} (h : EV X R a ss O (.dat (.bool b1)) O1) (h2 : b1 = true → EV X R (.BoolOp .And (b :: es) pos) ss O1 (.dat (.bool b2)) O') (h3 : b1 = false → O' = O1) : EV X R (.BoolOp .And (a :: b :: es) pos) ss O (.dat (.bool (b1 && b2))) O' :=
  fun G0 H0 G H σ S L Q q => wE_of (pe_and peW peW) (h G0 H0 G H σ S L _ fun G1 H1 v k O1 S1 e1 r1 ⟨h4, h5⟩ => by
    subst h4 h5
    cases r1
    refine ⟨b1, rfl, ?_⟩
    cases b1 with
    | true =>
      show wE X _ σ H1 Q
      exact h2 rfl G0 H0 G1 H1 σ S1 L Q (q.ex e1)
    | false =>
      show Q (.bl false) H1
      have := h3 rfl
      subst this
      exact q.d S1 e1 (DP.bl false) ⟨rfl, rfl⟩)
theorem ev_or {b1 b2 : Bool} (h : EV X R a ss O (.dat (.bool b1)) O1) (h2 : b1 = false → EV X R (.BoolOp .Or (b :: es) pos) ss O1 (.dat (.bool b2)) O') (h3 : b1 = true → O' = O1) : EV X R (.BoolOp .Or (a :: b :: es) pos) ss O (.dat (.bool (b1 || b2))) O' :=
  fun G0 H0 G H σ S L Q q => wE_of (pe_or peW peW) (h G0 H0 G H σ S L _ fun G1 H1 v k O1 S1 e1 r1 ⟨h4, h5⟩ => by
    subst h4 h5
    cases r1
    refine ⟨b1, rfl, ?_⟩
    cases b1 with
    | false =>
      show wE X _ σ H1 Q
      exact h2 rfl G0 H0 G1 H1 σ S1 L Q (q.ex e1)
    | true =>
      show Q (.bl true) H1
      have := h3 rfl
      subst this
      exact q.d S1 e1 (DP.bl true) ⟨rfl, rfl⟩)
theorem ev_not {b1 : Bool} (h : EV X R a ss O (.dat (.bool b1)) O1) : EV X R (.UnaryOp .Not a pos) ss O (.dat (.bool (!b1))) O1 :=
  fun G0 H0 G H σ S L Q q => wE_of (pe_not peW) (h G0 H0 G H σ S L _ fun G1 H1 v k O1 S1 e1 r1 ⟨h4, h5⟩ => by
    subst h4 h5
    cases r1
    exact ⟨b1, rfl, q.d S1 e1 (DP.bl _) ⟨rfl, rfl⟩⟩)
/-- a if t else b -/
theorem ej_if {b' : Bool} (h : TV X R c ss O b' O1) (h1 : b' = true → EJ X R a ss O1 Φ) (h2 : b' = false → EJ X R b ss O1 Φ) : EJ X R (.IfExp c a b pos) ss O Φ :=
  fun G0 H0 G H σ S L Q q => wE_of (pe_ifExp ptW peW peW) (h G0 H0 G H σ S L _ fun G1 H1 v O1 S1 e1 ⟨h4, h5⟩ => by
    subst h4 h5
    cases v with
    | true => exact h1 rfl G0 H0 G1 H1 σ S1 L Q (q.ex e1)
    | false => exact h2 rfl G0 H0 G1 H1 σ S1 L Q (q.ex e1))

/-! ### argument lists, displays -/
theorem aj_nil {Φ : List Kd → Store → Prop} (h : Φ [] O) : AJ X R [] ss O Φ := fun G0 H0 G H σ S L Q q => wA_of pa_nil (q G H [] [] O S (Ex.refl G) .nil h)
theorem aj_cons {Φe : Kd → Store → Prop} {Φ : List Kd → Store → Prop} (h : EJ X R e ss O Φe) (h2 : ∀ k O1, Φe k O1 → AJ X R es ss O1 fun ks O2 => Φ (k :: ks) O2) (hs : starEach (e :: es) X.env = (false, eval e X.env) :: starEach es X.env := by exact star_ne rfl) : AJ X R (e :: es) ss O Φ :=
  fun G0 H0 G H σ S L Q q => wA_of (pa_cons peW paW hs) (h G0 H0 G H σ S L _ fun G1 H1 v k O1 S1 e1 r1 p1 => h2 k O1 p1 G0 H0 G1 H1 σ S1 L _ fun G2 H2 vs ks O2 S2 e2 r2 p2 => q G2 H2 _ _ O2 S2 (e1.trans e2) (.cons (kd_ex e2 r1) r2) p2)
theorem av_nil : AV X R [] ss O [] O := aj_nil ⟨rfl, rfl⟩
theorem AV.to {Φ : List Kd → Store → Prop} (h : AV X R es ss O ks O') (i : Φ ks O') : AJ X R es ss O Φ := fun G0 H0 G H σ S L Q q => h G0 H0 G H σ S L Q fun G' H' vs k1 O1 S1 e1 r1 ⟨h1, h2⟩ => by subst h1 h2; exact q G' H' vs _ _ S1 e1 r1 i
theorem av_cons (h : EV X R e ss O k O1) (h2 : AV X R es ss O1 ks O') (hs : starEach (e :: es) X.env = (false, eval e X.env) :: starEach es X.env := by exact star_ne rfl) : AV X R (e :: es) ss O (k :: ks) O' :=
  aj_cons h (fun _ _ ⟨e1, e2⟩ => by subst e1 e2; exact h2.to ⟨rfl, rfl⟩) hs
theorem kinds_dp {G : Hp} : ∀ {vs : List V} {ds : List D}, Kinds G vs (ds.map .dat) → DPs G vs ds
  | _, [], h => by cases h; exact .nil
  | _, d :: ds, h => by
    cases h with
    | cons r t => exact .cons r (kinds_dp t)
/-- (a, b, ..) -/
theorem ev_tup {ds : List D} {x1 : Nat} (h : AV X R es ss O ks O') (hk : ks = ds.map .dat) (hl : ds.length ≤ sizeLine) : EV X R (.Tuple es x1 pos) ss O (.dat (.tuple ds)) O' :=
  fun G0 H0 G H σ S L Q q => wE_of (pe_tupP paW) (h G0 H0 G H σ S L _ fun G1 H1 vs k1 O1 S1 e1 r1 ⟨h1, h2⟩ => by
    subst h1 h2 hk
    have r := kinds_dp r1
    refine ⟨by rw [dpAll_len r]; exact hl, fun p o hp ho => ?_⟩
    have eg : Ex G1 (upd G1 p (.frz o (.tup vs))) := Ex.new (S1.free hp)
    exact q.d (S1.data hp _) (e1.trans eg) (DP.tup (PTu.new ho) (dpAll_ex eg r)) ⟨rfl, rfl⟩)
/-- [a, b, ..], a new owned list -/
theorem en_lst {ds : List D} (h : AV X R es ss O ks O') (hk : ks = ds.map .dat) (hl : ds.length ≤ sizeLine) : EN X R (.List es pos) ss O (.ol ds) O' :=
  fun G0 H0 G H σ S L Q q => wE_of (pe_lst paW) (h G0 H0 G H σ S L _ fun G1 H1 vs k1 O1 S1 e1 r1 ⟨h1, h2⟩ => by
    subst h1 h2 hk
    have r := kinds_dp r1
    refine ⟨by rw [dpAll_len r]; exact hl, fun p hp => ?_⟩
    exact q.v (S1.new hp (b := .ol ds) ⟨vs, upd_same, r⟩) e1 ⟨p, rfl, rfl⟩)
/-- {} -/
theorem en_dict : EN X R (.Dict [] [] pos) ss O (.od []) O := fun G0 H0 G H σ S L Q q => wE_of pe_dnewK fun p hp => q.v (S.new hp (b := .od []) ⟨[], upd_same, .nil⟩) (Ex.refl G) ⟨p, rfl, rfl⟩
theorem wE_lock {X : Cx} {e : Expr} {σ : L2.St} {H : Hp} {Q : VK} (h : wE X e σ H fun v H1 => ∃ d u, H1 d = some u ∧ Mut (some u) ∧ ∀ od, Q v (upd H1 d (.frz od u))) : wE X e σ H Q := ⟨fun pins s I => thn (h.run pins s I) fun v s1 ⟨x, H1, I1, r, d, u, hd, mu, q⟩ => by
  obtain ⟨od, I2⟩ := I1.lock hd mu
  exact ⟨x, _, I2, r, q od⟩⟩
/-- an owned dict taken as plain data from here on -/
theorem EV.frzD {j : Nat} {p : Addr} {kvs : List (Str × D)} (h : EV X R e ss O (.val (.ref p)) O') (hj : O'[j]? = some (p, .od kvs)) : EV X R e ss O (.dat (dK kvs)) (O'.eraseIdx j) := fun G0 H0 G H σ S L Q q => wE_lock (h G0 H0 G H σ S L _ fun G1 H1 v k O1 S1 e1 r1 ⟨h1, h2⟩ => by
  subst h1 h2
  obtain ⟨ws, hv, f⟩ := S1.freezeD hj
  refine ⟨p, _, hv, trivial, fun od => ?_⟩
  obtain ⟨S', e', d'⟩ := f od
  have : v = .ref p := r1
  subst this
  exact q.d S' (e1.trans e') d' ⟨rfl, rfl⟩)
theorem EN.frzD {kvs : List (Str × D)} (h : EN X R e ss O (.od kvs) O') : EV X R e ss O (.dat (dK kvs)) O' := fun G0 H0 G H σ S L Q q => wE_lock (h G0 H0 G H σ S L _ fun G1 H1 v k O1 S1 e1 r1 ⟨p, h1, h2⟩ => by
  subst h1 h2
  obtain ⟨ws, hv, f⟩ := S1.freezeD (i := 0) rfl
  refine ⟨p, _, hv, trivial, fun od => ?_⟩
  obtain ⟨S', e', d'⟩ := f od
  have : v = .ref p := r1
  subst this
  exact q.d S' (e1.trans e') d' ⟨rfl, rfl⟩)
/-- an owned list taken as plain data from here on -/
theorem EV.frzL {j : Nat} {p : Addr} {ds : List D} (h : EV X R e ss O (.val (.ref p)) O') (hj : O'[j]? = some (p, .ol ds)) : EV X R e ss O (.dat (.list ds)) (O'.eraseIdx j) := fun G0 H0 G H σ S L Q q => h G0 H0 G H σ S L Q fun G1 H1 v k O1 S1 e1 r1 ⟨h1, h2⟩ => by
  subst h1 h2
  obtain ⟨G', S', e', d'⟩ := S1.freeze hj
  have : v = .ref p := r1
  subst this
  exact q.d S' (e1.trans e') d' ⟨rfl, rfl⟩
/-- a new list taken as plain data -/
theorem EN.frz {ds : List D} (h : EN X R e ss O (.ol ds) O') : EV X R e ss O (.dat (.list ds)) O' := fun G0 H0 G H σ S L Q q => h G0 H0 G H σ S L Q fun G1 H1 v k O1 S1 e1 r1 ⟨p, h1, h2⟩ => by
  subst h1 h2
  obtain ⟨G', S', e', d'⟩ := S1.freeze (i := 0) rfl
  have : v = .ref p := r1
  subst this
  exact q.d S' (e1.trans e') d' ⟨rfl, rfl⟩
end
end Dl
end
section
namespace Dl
open PySem PySem.Spec PyProof.Rows L2
open Evl (Ex)

/-! ### statements -/
structure DE where
  nx : List Kd → Store → Prop
  rt : Kd → Store → Prop
  bk : List Kd → Store → Prop := fun _ _ => False
  ct : List Kd → Store → Prop := fun _ _ => False
structure Sat (X : Cx) (G0 H0 G : Hp) (D : DE) (E : Ends) : Prop where
  nx : ∀ G' H' σ' ss' O', Sta G0 H0 G' H' σ' ss' O' → Ex G G' → D.nx ss' O' → E.nx σ' H'
  rt : ∀ G' H' σ' ss' v k O', Sta G0 H0 G' H' σ' ss' O' → Ex G G' → KdAt G' v k → D.rt k O' → E.rt v H'
  bk : ∀ G' H' σ' ss' O', Sta G0 H0 G' H' σ' ss' O' → Ex G G' → D.bk ss' O' → E.bk σ' H'
  ct : ∀ G' H' σ' ss' O', Sta G0 H0 G' H' σ' ss' O' → Ex G G' → D.ct ss' O' → E.ct σ' H'
theorem Sat.ex {X : Cx} {G0 H0 G G1 : Hp} {D : DE} {E : Ends} (h : Sat X G0 H0 G D E) (e : Ex G G1) : Sat X G0 H0 G1 D E :=
  ⟨fun G' H' σ' ss' O' S e' => h.nx G' H' σ' ss' O' S (e.trans e'), fun G' H' σ' ss' v k O' S e' => h.rt G' H' σ' ss' v k O' S (e.trans e'), fun G' H' σ' ss' O' S e' => h.bk G' H' σ' ss' O' S (e.trans e'), fun G' H' σ' ss' O' S e' => h.ct G' H' σ' ss' O' S (e.trans e')⟩
theorem Sat.imp {X : Cx} {G0 H0 G : Hp} {D D' : DE} {E : Ends} (h : Sat X G0 H0 G D E) (a : ∀ ss O, D'.nx ss O → D.nx ss O) (b : ∀ k O, D'.rt k O → D.rt k O) (c : ∀ ss O, D'.bk ss O → D.bk ss O) (d : ∀ ss O, D'.ct ss O → D.ct ss O) : Sat X G0 H0 G D' E :=
  ⟨fun G' H' σ' ss' O' S e' p => h.nx G' H' σ' ss' O' S e' (a _ _ p), fun G' H' σ' ss' v k O' S e' r p => h.rt G' H' σ' ss' v k O' S e' r (b _ _ p), fun G' H' σ' ss' O' S e' p => h.bk G' H' σ' ss' O' S e' (c _ _ p), fun G' H' σ' ss' O' S e' p => h.ct G' H' σ' ss' O' S e' (d _ _ p)⟩
def SJ (X : Cx) (R : Addr → Prop) (sts : List Stmt) (ss : List Kd) (O : Store) (D : DE) : Prop :=
  ∀ G0 H0 G H σ, Sta G0 H0 G H σ ss O → Lt X R H0 → ∀ E : Ends, Sat X G0 H0 G D E → wSs X sts E σ H
def S1 (X : Cx) (R : Addr → Prop) (st : Stmt) (ss : List Kd) (O : Store) (D : DE) : Prop :=
  ∀ G0 H0 G H σ, Sta G0 H0 G H σ ss O → Lt X R H0 → ∀ E : Ends, Sat X G0 H0 G D E → wS X st E σ H
section
variable {X : Cx} {R : Addr → Prop} {e a b c : Expr} {es : List Expr} {ss : List Kd} {O O1 O2 O' : Store} {k ka kb : Kd} {ks : List Kd} {Φ Ψ : Kd → Store → Prop} {pos : Pos} {st : Stmt} {sts rest body : List Stmt} {D D' : DE}
theorem SJ.imp (h : SJ X R sts ss O D) (a : ∀ ss O, D.nx ss O → D'.nx ss O) (b : ∀ k O, D.rt k O → D'.rt k O) (c : ∀ ss O, D.bk ss O → D'.bk ss O) (d : ∀ ss O, D.ct ss O → D'.ct ss O) : SJ X R sts ss O D' :=
  fun G0 H0 G H σ S L E s => h G0 H0 G H σ S L E (s.imp a b c d)
theorem S1.imp (h : S1 X R st ss O D) (a : ∀ ss O, D.nx ss O → D'.nx ss O) (b : ∀ k O, D.rt k O → D'.rt k O) (c : ∀ ss O, D.bk ss O → D'.bk ss O) (d : ∀ ss O, D.ct ss O → D'.ct ss O) : S1 X R st ss O D' :=
  fun G0 H0 G H σ S L E s => h G0 H0 G H σ S L E (s.imp a b c d)
theorem sj_nil (h : D.nx ss O) : SJ X R [] ss O D := fun G0 H0 G H σ S L E s => wSs_of pss_nil (s.nx G H σ ss O S (Ex.refl G) h)
theorem sj_cons (h : S1 X R st ss O { D with nx := fun ss' O' => SJ X R rest ss' O' D }) : SJ X R (st :: rest) ss O D := fun G0 H0 G H σ S L E s =>
  wSs_of (pss_cons psW pssW) (h G0 H0 G H σ S L { E with nx := wSs X rest E } ⟨fun G' H' σ' ss' O' S' e' p => p G0 H0 G' H' σ' S' L E (s.ex e'), s.rt, s.bk, s.ct⟩)
theorem sj_one (h : S1 X R st ss O D) : SJ X R [st] ss O D := fun G0 H0 G H σ S L E s => wSs_of (pss_one psW) (h G0 H0 G H σ S L E s)
/-- less is known, fewer objects -/
theorem SJ.less {O' : Store} (h : SJ X R sts ss O' D) (hs : ∀ q ∈ O', q ∈ O) (nd : (O.map (·.1)).Nodup → (O'.map (·.1)).Nodup) : SJ X R sts ss O D := fun G0 H0 G H σ S L E s => h G0 H0 G H σ (S.less hs (nd S.nd)) L E s
theorem S1.less {O' : Store} (h : S1 X R st ss O' D) (hs : ∀ q ∈ O', q ∈ O) (nd : (O.map (·.1)).Nodup → (O'.map (·.1)).Nodup) : S1 X R st ss O D := fun G0 H0 G H σ S L E s => h G0 H0 G H σ (S.less hs (nd S.nd)) L E s
/-- the store's first object is dropped -/
theorem SJ.drop1 {q : Addr × Ob} (h : SJ X R sts ss O D) : SJ X R sts ss (q :: O) D := h.less (fun _ h => List.mem_cons_of_mem _ h) fun h => (List.nodup_cons.mp h).2
theorem SJ.nd (h : (O.map (·.1)).Nodup → SJ X R sts ss O D) : SJ X R sts ss O D := fun G0 H0 G H σ S L E s => h S.nd G0 H0 G H σ S L E s

/-- the owned list in slot i is plain data from here on -/
theorem sj_frzL (i j : Nat) {p : Addr} {ds : List PyData} (hi : ss[i]? = some (.val (.ref p))) (hj : O[j]? = some (p, .ol ds)) (h : SJ X R sts (ss.set i (.dat (.list ds))) (O.eraseIdx j) D) : SJ X R sts ss O D := fun G0 H0 G H σ S L E s => by
  obtain ⟨G', S', e', d'⟩ := S.freeze hj
  obtain ⟨v, hv, r⟩ := S.slot hi (by simp)
  have : v = .ref p := r
  subst this
  have S2 := S'.set i (k := .dat (.list ds)) d'
  have e : σ.set i (some (.ref p)) = σ := by
    obtain ⟨l, e⟩ := List.getElem?_eq_some_iff.mp hv
    rw [← e]
    exact List.set_getElem_self l
  rw [e] at S2
  exact h G0 H0 G' H σ S2 L E (s.ex e')
/-- the owned dict in slot i is plain data from here on -/
theorem sj_frzD (i j : Nat) {p : Addr} {kvs : List (Str × PyData)} (hi : ss[i]? = some (.val (.ref p))) (hj : O[j]? = some (p, .od kvs)) (h : SJ X R sts (ss.set i (.dat (dK kvs))) (O.eraseIdx j) D) : SJ X R sts ss O D := fun G0 H0 G H σ S L E s => ⟨fun pins st I => by
  obtain ⟨ws, hv, f⟩ := S.freezeD hj
  obtain ⟨od, I2⟩ := I.lock hv trivial
  obtain ⟨S', e', d'⟩ := f od
  obtain ⟨v, hv2, r⟩ := S.slot hi (by simp)
  have : v = .ref p := r
  subst this
  have S2 := S'.set i (k := .dat (dK kvs)) d'
  have e : σ.set i (some (.ref p)) = σ := by
    obtain ⟨l, e⟩ := List.getElem?_eq_some_iff.mp hv2
    rw [← e]
    exact List.set_getElem_self l
  rw [e] at S2
  exact (h G0 H0 _ _ σ S2 L E (s.ex e')).run pins st I2⟩
/-- x = e -/
theorem s1_setJ (i : Nat) {x : Str} {pos' : Pos} (he : EJ X R e ss O fun k O' => D.nx (ss.set i k) O') (hN : X.N.Nodup) (hi : X.N[i]? = some x) (hx : Loc X.env.scope x) (hs : swapsWith e (some (.Name x pos')) pos.line X.env = pure false := by rfl) (hf : X.fn x = true ∨ X.env.scope.names.lookup x = some .local := by first | exact .inl rfl | exact .inr rfl | assumption) :
    S1 X R (.Assign [.Name x pos'] e pos) ss O D := fun G0 H0 G H σ S L E s =>
  wS_of (ps_set hN hi hx peW hs hf) (he G0 H0 G H σ S L _ fun G1 H1 v k O1 S1 e1 r1 p1 => s.nx G1 H1 _ _ O1 (S1.set i r1) e1 p1)
theorem s1_set (i : Nat) {x : Str} {pos' : Pos} (he : EV X R e ss O k O') (h : D.nx (ss.set i k) O') (hN : X.N.Nodup) (hi : X.N[i]? = some x) (hx : Loc X.env.scope x) (hs : swapsWith e (some (.Name x pos')) pos.line X.env = pure false := by rfl) (hf : X.fn x = true ∨ X.env.scope.names.lookup x = some .local := by first | exact .inl rfl | exact .inr rfl | assumption) :
    S1 X R (.Assign [.Name x pos'] e pos) ss O D := s1_setJ i (he.to h) hN hi hx hs hf
theorem s1_setN (i : Nat) {x : Str} {pos' : Pos} {b : Ob} (he : EN X R e ss O b O') (h : ∀ p, D.nx (ss.set i (.val (.ref p))) ((p, b) :: O')) (hN : X.N.Nodup) (hi : X.N[i]? = some x) (hx : Loc X.env.scope x) (hs : swapsWith e (some (.Name x pos')) pos.line X.env = pure false := by rfl) (hf : X.fn x = true ∨ X.env.scope.names.lookup x = some .local := by first | exact .inl rfl | exact .inr rfl | assumption) :
    S1 X R (.Assign [.Name x pos'] e pos) ss O D := s1_setJ i (EJ.imp he fun k O1 ⟨p, e1, e2⟩ => by subst e1 e2; exact h p) hN hi hx hs hf
/-- e as a statement -/
theorem s1_expr (he : EJ X R e ss O fun _ O' => D.nx ss O') (hs : swapsWith e none pos.line X.env = pure false := by rfl) : S1 X R (.Expr e pos) ss O D := fun G0 H0 G H σ S L E s =>
  wS_of (ps_expr peW hs) (he G0 H0 G H σ S L _ fun G1 H1 v k O1 S1 e1 r1 p1 => s.nx G1 H1 _ _ O1 S1 e1 p1)
theorem s1_ret (he : EJ X R e ss O D.rt) : S1 X R (.Return (some e) pos) ss O D := fun G0 H0 G H σ S L E s =>
  wS_of (ps_ret peW) (he G0 H0 G H σ S L _ fun G1 H1 v k O1 S1 e1 r1 p1 => s.rt G1 H1 _ _ v k O1 S1 e1 r1 p1)
theorem s1_retN (h : D.rt (.dat .none) O) : S1 X R (.Return none pos) ss O D := fun G0 H0 G H σ S L E s => wS_of ps_retN (s.rt G H σ ss .non (.dat .none) O S (Ex.refl G) DP.non h)
theorem s1_pass (h : D.nx ss O) : S1 X R (.Pass pos) ss O D := fun G0 H0 G H σ S L E s => wS_of ps_pass (s.nx G H σ ss O S (Ex.refl G) h)
theorem s1_doc {x : Str} {j : Nat} {pos' : Pos} (h : D.nx ss O) : S1 X R (.Expr (.Constant (.str x) j pos) pos') ss O D := fun G0 H0 G H σ S L E s => wS_of ps_doc (s.nx G H σ ss O S (Ex.refl G) h)
theorem s1_if {b' : Bool} {body els : List Stmt} (hc : TV X R c ss O b' O1) (h1 : b' = true → SJ X R body ss O1 D) (h2 : b' = false → SJ X R els ss O1 D) : S1 X R (.If c body els pos) ss O D := fun G0 H0 G H σ S L E s =>
  wS_of (ps_if ptW pssW pssW) (hc G0 H0 G H σ S L _ fun G1 H1 v O2 S1 e1 ⟨h3, h4⟩ => by
    subst h3 h4
    cases v with
    | true => exact h1 rfl G0 H0 G1 H1 σ S1 L E (s.ex e1)
    | false => exact h2 rfl G0 H0 G1 H1 σ S1 L E (s.ex e1))

/-! ### the call of a def -/
def mask (H : Hp) (B : Store) : Hp := fun a => if a ∈ B.map (·.1) then none else H a
theorem mask_in {H : Hp} {B : Store} {a : Addr} (h : a ∈ B.map (·.1)) : mask H B a = none := if_pos h
theorem mask_out {H : Hp} {B : Store} {a : Addr} (h : a ∉ B.map (·.1)) : mask H B a = H a := if_neg h
theorem mask_le {H : Hp} {B : Store} : Ex (mask H B) H := fun a o e => by
  by_cases h : a ∈ B.map (·.1)
  · rw [mask_in h] at e; cases e
  · rw [mask_out h] at e; exact e
/-- a promise over data: kinds of the arguments, objects lent, what is wanted of the value and the objects behind, the classes that may be raised -/
abbrev DSp := List Kd → Store → (Kd → Store → Prop) → (Addr → Prop) → Prop
def toSp (T : DSp) : Sp := fun vs H Q E => ∃ (G : Hp) (ks : List Kd) (B : Store) (k : Kd → Store → Prop) (R : Addr → Prop),
  Kinds G vs ks ∧ Ex G H ∧ (B.map (·.1)).Nodup ∧ (∀ q ∈ B, ObAt G H q.1 q.2 ∧ G q.1 = none) ∧ T ks B k R ∧
  (∀ G' H' v r B', Sta G (mask H B) G' H' [] [] B' → KdAt G' v r → k r B' → Q v H') ∧ ∀ C, R C → ∀ H', Ex (mask H B) H' → E (.ref C) none H'
abbrev FD (P : Program) (w : World) (K : PySem.W.Frag) (mg : Str → Option Value) (base : Heap) (n : Nat) (f : Addr) (fd : FuncData) (ps : List Str) (T : DSp) : Prop := FnOk P w K mg base (L2.CX P w) n f fd ps (toSp T)
/-- at a return: what is handed back of the objects -/
def fin (k : Kd → Store → Prop) : Kd → Store → Prop := fun r O' => ∃ O'' : Store, (∀ q ∈ O'', q ∈ O') ∧ ((O'.map (·.1)).Nodup → (O''.map (·.1)).Nodup) ∧ k r O''
theorem fin0 {k : Kd → Store → Prop} {r : Kd} {O' : Store} (h : k r []) : fin k r O' := ⟨[], fun _ z => (nomatch z), fun _ => List.nodup_nil, h⟩
theorem fin1 {k : Kd → Store → Prop} {r : Kd} {O' : Store} {q : Addr × Ob} (hq : q ∈ O') (h : k r [q]) : fin k r O' := ⟨[q], fun _ z => by rw [List.mem_singleton.mp z]; exact hq, fun _ => by simp, h⟩
theorem finA {k : Kd → Store → Prop} {r : Kd} {O' : Store} (h : k r O') : fin k r O' := ⟨O', fun _ z => z, fun z => z, h⟩
theorem finS {k : Kd → Store → Prop} {r : Kd} {O' O'' : Store} (s : O''.Sublist O') (h : k r O'') : fin k r O' := ⟨O'', fun _ z => s.subset z, fun z => z.sublist (s.map _), h⟩

theorem slots_start {G : Hp} : ∀ {vs : List V} {ks : List Kd}, Kinds G vs ks → Slots G (vs.map some) ks
  | _, _, .nil => .nil
  | _, _, .cons (b := k) r t => .cons (by cases k <;> first | trivial | exact r) (slots_start t)
theorem slots_und {G : Hp} : ∀ n : Nat, Slots G (List.replicate n none) (List.replicate n .und)
  | 0 => .nil
  | n + 1 => .cons trivial (slots_und n)
/-- the kinds by slot at the entry -/
def startK (N : List Str) (ks : List Kd) : List Kd := ks ++ List.replicate (N.length - ks.length) .und

section
variable {P : Program} {w : World} {K : PySem.W.Frag} {mg : Str → Option Value} {base : Heap}
/-- A def by its body -/
theorem fd_ok {x qual : Str} {st : Stmt} {f : Addr} {fd : FuncData} {N ps : List Str} {n : Nat} {T : DSp} (F : Fun K x qual st f fd) (S : FnScope N ps (defScope st)) (len : ∀ ks B k R, T ks B k R → ks.length = ps.length)
    (hbody : ∀ (cdv : Value) (A : Around) (outer : List Env) (s : Shared) (H : Hp) (E : XK) (ks : List Kd) (B : Store) (k : Kd → Store → Prop) (R : Addr → Prop), Room n (A.deeper (envOfC qual (defScope st) s.heap.objs.size f cdv)) → T ks B k R →
      SJ (cxOf (L2.CX P w) P w K mg base N qual (defScope st) f cdv A outer s H E) R (defBody st) (startK N ks) B { nx := fun _ O' => fin k (.dat .none) O', rt := fin k }) :
    FD P w K mg base (n + 1) f fd ps T := by
  refine F.okX S (fun vs H Q E h => ?_) (fun cdv A outer s H vs Q E hr h => ⟨wSs _ _, pssW, ?_⟩)
  · obtain ⟨G, ks, B, k, R, hk, _, _, _, hT, _⟩ := h
    exact (paired_len hk).trans (len _ _ _ _ hT)
  · obtain ⟨G, ks, B, k, R, hk, hg, hn, hb, hT, hq, hE⟩ := h
    have hS := hbody cdv A outer s H E ks B k R hr hT
    have ok : Sta G (mask H B) G H (L2.start N vs) (startK N ks) B := by
      refine ⟨Ex.refl G, mask_le, hg, fun a o e => .inl e, ?_, hn, fun q hq => ⟨(hb q hq).1, (hb q hq).2, mask_in (List.mem_map_of_mem hq)⟩⟩
      unfold L2.start startK
      rw [paired_len hk]
      exact paired_app (slots_start hk) (slots_und _)
    have tk : Takes (cxOf (L2.CX P w) P w K mg base N qual (defScope st) f cdv A outer s H E) (fun cls d _ H' => E cls d H') := takes_of rfl rfl rfl rfl
    refine hS G (mask H B) G H _ ok (fun C hC σ H' e => wX_of tk (hE C hC H' e)) _ ⟨fun G' H' σ' ss' O' S' e' p => ?_, fun G' H' σ' ss' v k' O' S' e' r p => ?_, fun _ _ _ _ _ _ _ p => p.elim, fun _ _ _ _ _ _ _ p => p.elim⟩
    · obtain ⟨O'', h1, h2, h3⟩ := p
      exact hq G' H' .non (.dat .none) O'' ((S'.less h1 (h2 S'.nd)).slots .nil) DP.non h3
    · obtain ⟨O'', h1, h2, h3⟩ := p
      exact hq G' H' v k' O'' ((S'.less h1 (h2 S'.nd)).slots .nil) r h3
end
theorem perm_mem {B F : Store} (h : O.Perm (B ++ F)) : ∀ q, q ∈ O ↔ q ∈ B ∨ q ∈ F := fun q => (h.mem_iff).trans List.mem_append
theorem perm_erase {α : Type} : ∀ {l : List α} {j : Nat} (h : j < l.length), l.Perm (l[j] :: l.eraseIdx j)
  | _ :: _, 0, _ => List.Perm.refl _
  | a :: l, j + 1, h => ((perm_erase (l := l) (j := j) (by simpa using h)).cons a).trans (List.Perm.swap _ _ _)
/-- what a callee's promise gives its caller -/
theorem call_back {G0 H0 G H : Hp} {σ : L2.St} {vs : List V} {Q : VK} {T : DSp} {B F : Store} (S : Sta G0 H0 G H σ ss O) (L : Lt X R H0) (hk : Kinds G vs ks) (hp : O.Perm (B ++ F)) (hT : T ks B (fun r B' => Φ r (B' ++ F)) R) (q : Wt X G0 H0 G σ ss Φ Q) :
    toSp T vs H Q (WE (wX X) σ) := by
  have nd : ((B ++ F).map (·.1)).Nodup := (hp.map (·.1)).nodup_iff.mp S.nd
  rw [List.map_append, List.nodup_append] at nd
  obtain ⟨nB, nF, nBF⟩ := nd
  have hB : ∀ q ∈ B, q ∈ O := fun q h => (perm_mem hp q).mpr (.inl h)
  have hF : ∀ q ∈ F, q ∈ O := fun q h => (perm_mem hp q).mpr (.inr h)
  have h0 : Ex H0 (mask H B) := fun a o e => by
    have : a ∉ B.map (·.1) := fun z => by
      obtain ⟨q, hq, e'⟩ := List.mem_map.mp z
      have := (S.ob q (hB q hq)).2.2
      rw [e', e] at this
      cases this
    rw [mask_out this]
    exact S.h0 a o e
  refine ⟨G, ks, B, _, R, hk, S.gh, nB, fun q hq => ⟨(S.ob q (hB q hq)).1, (S.ob q (hB q hq)).2.1⟩, hT, fun G' H' v r B' S' r' p => ?_, fun C hC H' e => L C hC σ H' (h0.trans e)⟩
  have keyF : ∀ q ∈ F, q.1 ∉ B.map (·.1) := fun q hq z => nBF _ z q.1 (List.mem_map_of_mem hq) rfl
  have maskF : ∀ q ∈ F, mask H B q.1 = H q.1 := fun q hq => mask_out (keyF q hq)
  have gF : ∀ q ∈ F, G' q.1 = none := fun q hq => by
    cases e : G' q.1 with
    | none => rfl
    | some o =>
      obtain ⟨a, b, c⟩ := S.ob q (hF q hq)
      rcases S'.fr _ _ e with z | z
      · rw [b] at z; cases z
      · obtain ⟨u, hu⟩ := ob_some a
        rw [maskF q hq, hu] at z; cases z
  refine q G' H' v r (B' ++ F) ⟨S.g0.trans S'.g0, h0.trans S'.h0, S'.gh, fun a o e => ?_, slots_ex S'.g0 S.sl, ?_, fun q hq => ?_⟩ S'.g0 r' p
  · rcases S'.fr a o e with z | z
    · exact S.fr a o z
    · refine .inr ?_
      cases y : H0 a with
      | none => rfl
      | some u =>
        have := h0 a u y
        rw [z] at this; cases this
  · rw [List.map_append, List.nodup_append]
    refine ⟨S'.nd, nF, fun a ha b hb e => ?_⟩
    subst e
    obtain ⟨q1, hq1, e1⟩ := List.mem_map.mp ha
    obtain ⟨q2, hq2, e2⟩ := List.mem_map.mp hb
    have z1 := (S'.ob q1 hq1).2.2
    obtain ⟨u, hu⟩ := ob_some (S.ob q2 (hF q2 hq2)).1
    rw [e1, ← e2, maskF q2 hq2, hu] at z1
    cases z1
  · rcases List.mem_append.mp hq with hq | hq
    · obtain ⟨a, b, c⟩ := S'.ob q hq
      refine ⟨a, b, ?_⟩
      cases y : H0 q.1 with
      | none => rfl
      | some u =>
        have := h0 _ u y
        rw [c] at this; cases this
    · obtain ⟨a, b, c⟩ := S.ob q (hF q hq)
      obtain ⟨u, hu⟩ := ob_some a
      have e : H' q.1 = H q.1 := by
        rw [hu]
        exact S'.h0 _ _ ((maskF q hq).trans hu)
      exact ⟨ob_ex S'.g0 e a, gF q hq, c⟩
/-- f(e, ..): written arguments, then the defaults' kinds dk -/
theorem ej_call {n : Nat} {f : Addr} {fd : FuncData} {ps : List Str} {T : DSp} {x : Str} {p : Pos} {ds : List Value} {dvs : List V} {dk : List Kd} {Φa : List Kd → Store → Prop} (Fn : FD X.prog X.w X.K X.mg X.base n f fd ps T) (hr : Room n X.A) (hg : Gl X x) (hm : X.mg x = some (.ref f)) (hk : PySem.W.keepIn X.K (.ref f) = true)
    (hb : Binds X.K fd ps ds) (hd : Vals dvs ds) (hdk : ∀ G, Kinds G dvs dk) (ha : AJ X R (e :: es) ss O Φa) (hT : ∀ ks O1, Φa ks O1 → ∃ B F, O1.Perm (B ++ F) ∧ T (ks ++ dk) B (fun r B' => Φ r (B' ++ F)) R)
    (hdb : (x == ("__debug__" : Str)) = false := by decide) (he : starEach (e :: es) X.env = (false, eval e X.env) :: starEach es X.env := by exact star_ne rfl) (hpl : (backTo pos (starEach es X.env)).any (·.1) = false := by rfl) : EJ X R (.Call (.Name x p) (e :: es) [] pos) ss O Φ := fun G0 H0 G H σ S L Q q =>
  wE_of (pe_callSD Fn hr hg hm hk hb hd (fun σ => passAt takesW σ) paW hdb he hpl) (ha G0 H0 G H σ S L _ fun G1 H1 vs ks O1 S1 e1 r1 p1 => by
    obtain ⟨B, F, hp, hT⟩ := hT ks O1 p1
    exact call_back S1 L (paired_app r1 (hdk G1)) hp hT (q.ex e1))
/-- .. no defaults, nothing lent -/
theorem ev_call {n : Nat} {f : Addr} {fd : FuncData} {ps : List Str} {T : DSp} {x : Str} {p : Pos} (Fn : FD X.prog X.w X.K X.mg X.base n f fd ps T) (hr : Room n X.A) (hg : Gl X x) (hm : X.mg x = some (.ref f)) (hk : PySem.W.keepIn X.K (.ref f) = true)
    (hb : Binds X.K fd ps []) (ha : AV X R (e :: es) ss O ks O1) (hT : T ks [] (fun r B' => Φ r (B' ++ O1)) R)
    (hdb : (x == ("__debug__" : Str)) = false := by decide) (he : starEach (e :: es) X.env = (false, eval e X.env) :: starEach es X.env := by exact star_ne rfl) (hpl : (backTo pos (starEach es X.env)).any (·.1) = false := by rfl) : EJ X R (.Call (.Name x p) (e :: es) [] pos) ss O Φ :=
  ej_call (dk := []) Fn hr hg hm hk hb .nil (fun _ => .nil) ha (fun _ _ ⟨e1, e2⟩ => by
    subst e1 e2
    exact ⟨[], _, List.Perm.refl _, by rw [List.append_nil]; exact hT⟩) hdb he hpl
/-- .. the object at place j lent -/
theorem ev_callO (j : Nat) {n : Nat} {f : Addr} {fd : FuncData} {ps : List Str} {T : DSp} {x : Str} {p : Pos} {q : Addr × Ob} (Fn : FD X.prog X.w X.K X.mg X.base n f fd ps T) (hr : Room n X.A) (hg : Gl X x) (hm : X.mg x = some (.ref f)) (hk : PySem.W.keepIn X.K (.ref f) = true)
    (hb : Binds X.K fd ps []) (ha : AV X R (e :: es) ss O ks O1) (hj : O1[j]? = some q) (hT : T ks [q] (fun r B' => Φ r (B' ++ O1.eraseIdx j)) R)
    (hdb : (x == ("__debug__" : Str)) = false := by decide) (he : starEach (e :: es) X.env = (false, eval e X.env) :: starEach es X.env := by exact star_ne rfl) (hpl : (backTo pos (starEach es X.env)).any (·.1) = false := by rfl) : EJ X R (.Call (.Name x p) (e :: es) [] pos) ss O Φ :=
  ej_call (dk := []) Fn hr hg hm hk hb .nil (fun _ => .nil) ha (fun _ _ ⟨e1, e2⟩ => by
    subst e1 e2
    refine ⟨[q], _, ?_, by rw [List.append_nil]; exact hT⟩
    obtain ⟨l, e⟩ := List.getElem?_eq_some_iff.mp hj
    rw [← e]
    exact perm_erase l) hdb he hpl
end
end Dl
end
section
namespace Dl
open PySem PySem.Spec PyProof.Rows L2
open Evl (Ex)

/-! ### texts as lists of signs -/
abbrev sL (l : List Nat) : Str := ⟨l.toArray⟩
abbrev dS (l : List Nat) : D := .str (sL l)
theorem sL_len (l : List Nat) : (sL l).length = l.length := List.size_toArray
theorem sL_app (a b : List Nat) : sL a ++ sL b = sL (a ++ b) := by
  show (⟨a.toArray ++ b.toArray⟩ : Str) = ⟨(a ++ b).toArray⟩
  rw [List.append_toArray]
theorem sL_inj {a b : List Nat} (h : sL a = sL b) : a = b := by
  have := congrArg (fun s : Str => s.cps.toList) h
  simpa using this
theorem line24 {n : Nat} (h : n ≤ 16777216) : n ≤ sizeLine := by rw [sizeLine_eq]; exact h
theorem dp_int {G : Hp} {x : V} {i : Int} (h : DP G x (.int i)) : x = .int i := by cases h; rfl
theorem dp_str {G : Hp} {x : V} {i : Str} (h : DP G x (.str i)) : x = .str i := by cases h; rfl
theorem dp_bl {G : Hp} {x : V} {i : Bool} (h : DP G x (.bool i)) : x = .bl i := by cases h; rfl
theorem dp_lst {G : Hp} {x : V} {ds : List D} (h : DP G x (.list ds)) : ∃ a xs, x = .ref a ∧ G a = some (.lst xs) ∧ DPs G xs ds := by
  cases h with
  | lst h a => exact ⟨_, _, rfl, h, a⟩
theorem dp_tup {G : Hp} {x : V} {ds : List D} (h : DP G x (.tuple ds)) : ∃ a xs, x = .ref a ∧ PTu G a xs ∧ DPs G xs ds := by
  cases h with
  | tup h a => exact ⟨_, _, rfl, h, a⟩

section
variable {X : Cx} {R : Addr → Prop} {e a b c : Expr} {es : List Expr} {ss : List Kd} {O O1 O2 O' : Store} {k ka kb : Kd} {ks : List Kd} {Φ Ψ : Kd → Store → Prop} {pos : Pos}

/-! ### numbers -/
theorem oj_I0 {g : Int → Int → Int} {i j : Int} (h : Φ (.dat (.int (g i j))) O) : OJ X (rI0 fun i j => .int (g i j)) (.dat (.int i)) (.dat (.int j)) O Φ := fun G0 H0 G H σ ss x y S h1 h2 Q q =>
  ⟨i, j, dp_int h1, dp_int h2, q.d S (Ex.refl G) (DP.int _) h⟩
theorem oj_I {C : Int → Int → Prop} {g : Int → Int → Int} {i j : Int} (hc : C i j) (h : Φ (.dat (.int (g i j))) O) : OJ X (rI C fun i j => .int (g i j)) (.dat (.int i)) (.dat (.int j)) O Φ := fun G0 H0 G H σ ss x y S h1 h2 Q q =>
  ⟨i, j, dp_int h1, dp_int h2, hc, q.d S (Ex.refl G) (DP.int _) h⟩
theorem oj_B0 {g : Int → Int → Bool} {i j : Int} (h : Φ (.dat (.bool (g i j))) O) : OJ X (rI0 fun i j => .bl (g i j)) (.dat (.int i)) (.dat (.int j)) O Φ := fun G0 H0 G H σ ss x y S h1 h2 Q q =>
  ⟨i, j, dp_int h1, dp_int h2, q.d S (Ex.refl G) (DP.bl _) h⟩
theorem ev_add {i j : Int} (ha : EV X R a ss O (.dat (.int i)) O1) (hb : EV X R b ss O1 (.dat (.int j)) O2) : EV X R (.BinOp a .Add b pos) ss O (.dat (.int (i + j))) O2 := ev_op op_add ha hb (oj_I0 ⟨rfl, rfl⟩)
theorem ev_sub {i j : Int} (ha : EV X R a ss O (.dat (.int i)) O1) (hb : EV X R b ss O1 (.dat (.int j)) O2) : EV X R (.BinOp a .Sub b pos) ss O (.dat (.int (i - j))) O2 := ev_op op_sub ha hb (oj_I0 ⟨rfl, rfl⟩)
theorem ev_mul {i j : Int} (ha : EV X R a ss O (.dat (.int i)) O1) (hb : EV X R b ss O1 (.dat (.int j)) O2) (hc : CMul i j) : EV X R (.BinOp a .Mult b pos) ss O (.dat (.int (i * j))) O2 := ev_op op_mul ha hb (oj_I hc ⟨rfl, rfl⟩)
theorem ev_mulW {i j : Int} (ha : EV X R a ss O (.dat (.int i)) O1) (hb : EV X R b ss O1 (.dat (.int j)) O2) (hc : CMulW i j) : EV X R (.BinOp a .Mult b pos) ss O (.dat (.int (i * j))) O2 := ev_op op_mulW ha hb (oj_I hc ⟨rfl, rfl⟩)
theorem ev_fdiv {i j : Int} (ha : EV X R a ss O (.dat (.int i)) O1) (hb : EV X R b ss O1 (.dat (.int j)) O2) (hc : CDiv i j) : EV X R (.BinOp a .FloorDiv b pos) ss O (.dat (.int (i / j))) O2 := ev_op op_fdiv ha hb (oj_I hc ⟨rfl, rfl⟩)
theorem ev_mod {i j : Int} (ha : EV X R a ss O (.dat (.int i)) O1) (hb : EV X R b ss O1 (.dat (.int j)) O2) (hc : 0 < j) : EV X R (.BinOp a .Mod b pos) ss O (.dat (.int (i % j))) O2 := ev_op op_mod ha hb (oj_I (C := fun _ j => 0 < j) hc ⟨rfl, rfl⟩)
theorem ev_pow {i j : Int} (ha : EV X R a ss O (.dat (.int i)) O1) (hb : EV X R b ss O1 (.dat (.int j)) O2) (hc : CPow i j) : EV X R (.BinOp a .Pow b pos) ss O (.dat (.int (i ^ j.toNat))) O2 := ev_op op_pow ha hb (oj_I hc ⟨rfl, rfl⟩)
theorem ev_neg {i : Int} (ha : EV X R a ss O (.dat (.int i)) O1) : EV X R (.UnaryOp .USub a pos) ss O (.dat (.int (-i))) O1 := ev_un un_neg ha fun G0 H0 G H σ ss x S h1 Q q => ⟨i, dp_int h1, q.d S (Ex.refl G) (DP.int _) ⟨rfl, rfl⟩⟩
theorem ev_lt {i j : Int} (ha : EV X R a ss O (.dat (.int i)) O1) (hb : EV X R b ss O1 (.dat (.int j)) O2) : EV X R (.Compare a [.Lt] [b] pos) ss O (.dat (.bool (decide (i < j)))) O2 := ev_cmp op_lt ha hb (oj_B0 ⟨rfl, rfl⟩) (nomark _)
theorem ev_le {i j : Int} (ha : EV X R a ss O (.dat (.int i)) O1) (hb : EV X R b ss O1 (.dat (.int j)) O2) : EV X R (.Compare a [.LtE] [b] pos) ss O (.dat (.bool (decide (i ≤ j)))) O2 := ev_cmp op_le ha hb (oj_B0 ⟨rfl, rfl⟩) (nomark _)
theorem ev_gt {i j : Int} (ha : EV X R a ss O (.dat (.int i)) O1) (hb : EV X R b ss O1 (.dat (.int j)) O2) : EV X R (.Compare a [.Gt] [b] pos) ss O (.dat (.bool (decide (j < i)))) O2 := ev_cmp op_gt ha hb (oj_B0 ⟨rfl, rfl⟩) (nomark _)
theorem ev_ge {i j : Int} (ha : EV X R a ss O (.dat (.int i)) O1) (hb : EV X R b ss O1 (.dat (.int j)) O2) : EV X R (.Compare a [.GtE] [b] pos) ss O (.dat (.bool (decide (j ≤ i)))) O2 := ev_cmp op_ge ha hb (oj_B0 ⟨rfl, rfl⟩) (nomark _)

/-! ### equality of data of any depth -/
/-- data that == reads -/
def pl (d : D) : Bool := nod d && SeqAt.shaped d
theorem pl_nod {d : D} (h : pl d = true) : nod d = true := (Bool.and_eq_true_iff.mp h).1
theorem pl_sh {d : D} (h : pl d = true) : SeqAt.shaped d = true := (Bool.and_eq_true_iff.mp h).2
theorem oj_eq {d1 d2 : D} (hu : X.A.units + 64 < cLine) (s1 : pl d1 = true) (s2 : pl d2 = true) (h : Φ (.dat (.bool (PyData.eqv d1 d2))) O) : OJ X (rEqD X.K) (.dat d1) (.dat d2) O Φ := fun G0 H0 G H σ ss x y S h1 h2 Q q =>
  ⟨d1, d2, dp_of (pl_nod s1) (dp_ex S.gh h1), dp_of (pl_nod s2) (dp_ex S.gh h2), pl_sh s1, pl_sh s2, q.d S (Ex.refl G) (DP.bl _) h⟩
theorem oj_ne {d1 d2 : D} (hu : X.A.units + 64 < cLine) (s1 : pl d1 = true) (s2 : pl d2 = true) (h : Φ (.dat (.bool (!PyData.eqv d1 d2))) O) : OJ X (rNeD X.K) (.dat d1) (.dat d2) O Φ := fun G0 H0 G H σ ss x y S h1 h2 Q q =>
  ⟨d1, d2, dp_of (pl_nod s1) (dp_ex S.gh h1), dp_of (pl_nod s2) (dp_ex S.gh h2), pl_sh s1, pl_sh s2, q.d S (Ex.refl G) (DP.bl _) h⟩
theorem ev_eq {d1 d2 : D} {b' : Bool} {n : Nat} (hr : Room n X.A) (ha : EV X R a ss O (.dat d1) O1) (hb : EV X R b ss O1 (.dat d2) O2) (s1 : pl d1 = true) (s2 : pl d2 = true) (he : PyData.eqv d1 d2 = b') : EV X R (.Compare a [.Eq] [b] pos) ss O (.dat (.bool b')) O2 :=
  ev_cmp (op_eqD hr.units) ha hb (oj_eq hr.units s1 s2 ⟨by rw [he], rfl⟩) (nomark _)
theorem ev_ne {d1 d2 : D} {b' : Bool} {n : Nat} (hr : Room n X.A) (ha : EV X R a ss O (.dat d1) O1) (hb : EV X R b ss O1 (.dat d2) O2) (s1 : pl d1 = true) (s2 : pl d2 = true) (he : (!PyData.eqv d1 d2) = b') : EV X R (.Compare a [.NotEq] [b] pos) ss O (.dat (.bool b')) O2 :=
  ev_cmp (op_neD hr.units) ha hb (oj_ne hr.units s1 s2 ⟨by rw [he], rfl⟩) (nomark _)
theorem ev_isN {d1 : D} {j : Nat} {p2 : Pos} (ha : EV X R a ss O (.dat d1) O1) : EV X R (.Compare a [.Is] [.Constant .none j p2] pos) ss O (.dat (.bool (match d1 with | .none => true | _ => false))) O1 :=
  ev_cmp op_isN ha ev_non (fun G0 H0 G H σ ss x y S h1 h2 Q q => by
    cases h2
    refine ⟨rfl, ?_⟩
    cases h1 <;> exact q.d S (Ex.refl G) (DP.bl _) ⟨rfl, rfl⟩) (nomark _)
theorem ev_notN {d1 : D} {j : Nat} {p2 : Pos} (ha : EV X R a ss O (.dat d1) O1) : EV X R (.Compare a [.IsNot] [.Constant .none j p2] pos) ss O (.dat (.bool (match d1 with | .none => false | _ => true))) O1 :=
  ev_cmp op_notN ha ev_non (fun G0 H0 G H σ ss x y S h1 h2 Q q => by
    cases h2
    refine ⟨rfl, ?_⟩
    cases h1 <;> exact q.d S (Ex.refl G) (DP.bl _) ⟨rfl, rfl⟩) (nomark _)

/-! ### texts -/
theorem ev_sadd {s t : List Nat} (ha : EV X R a ss O (.dat (dS s)) O1) (hb : EV X R b ss O1 (.dat (dS t)) O2) (hl : s.length + t.length ≤ 16777216) : EV X R (.BinOp a .Add b pos) ss O (.dat (dS (s ++ t))) O2 :=
  ev_op op_add_str ha hb fun G0 H0 G H σ ss x y S h1 h2 Q q => ⟨sL s, sL t, dp_str h1, dp_str h2, by rw [sL_len, sL_len]; exact line24 hl, by
    rw [sL_app]
    exact q.d S (Ex.refl G) (DP.str _) ⟨rfl, rfl⟩⟩
theorem ev_slt {s t : List Nat} (ha : EV X R a ss O (.dat (dS s)) O1) (hb : EV X R b ss O1 (.dat (dS t)) O2) : EV X R (.Compare a [.Lt] [b] pos) ss O (.dat (.bool (decide (s < t)))) O2 :=
  ev_cmp op_lt_str ha hb (fun G0 H0 G H σ ss x y S h1 h2 Q q => ⟨sL s, sL t, dp_str h1, dp_str h2, q.d S (Ex.refl G) (DP.bl _) ⟨by simp, rfl⟩⟩) (nomark _)
theorem ev_inSign {c : Nat} {t : List Nat} (ha : EV X R a ss O (.dat (dS [c])) O1) (hb : EV X R b ss O1 (.dat (dS t)) O2) (hm : behindInMarks .In b = false := by rfl) : EV X R (.Compare a [.In] [b] pos) ss O (.dat (.bool (decide (c ∈ t)))) O2 :=
  ev_cmp op_in_sign ha hb (fun G0 H0 G H σ ss x y S h1 h2 Q q => ⟨c, sL t, dp_str h1, dp_str h2, q.d S (Ex.refl G) (DP.bl _) ⟨by simp, rfl⟩⟩) hm
theorem ev_notInSign {c : Nat} {t : List Nat} (ha : EV X R a ss O (.dat (dS [c])) O1) (hb : EV X R b ss O1 (.dat (dS t)) O2) (hm : behindInMarks .NotIn b = false := by rfl) : EV X R (.Compare a [.NotIn] [b] pos) ss O (.dat (.bool (!decide (c ∈ t)))) O2 :=
  ev_cmp op_notIn_sign ha hb (fun G0 H0 G H σ ss x y S h1 h2 Q q => ⟨c, sL t, dp_str h1, dp_str h2, q.d S (Ex.refl G) (DP.bl _) ⟨by simp, rfl⟩⟩) hm

/-! ### lists and tuples -/
theorem dps_len {G : Hp} {vs : List V} {ds : List D} (h : DPs G vs ds) : vs.length = ds.length := dpAll_len h
theorem ev_ladd {d1 d2 : List D} (ha : EV X R a ss O (.dat (.list d1)) O1) (hb : EV X R b ss O1 (.dat (.list d2)) O2) (hl : d1.length + d2.length ≤ 16777216) : EV X R (.BinOp a .Add b pos) ss O (.dat (.list (d1 ++ d2))) O2 :=
  ev_op op_cat ha hb fun G0 H0 G H σ ss x y S h1 h2 Q q => by
    obtain ⟨p1, xs, e1, g1, r1⟩ := dp_lst h1
    obtain ⟨p2, ys, e2, g2, r2⟩ := dp_lst h2
    refine ⟨p1, p2, xs, ys, e1, e2, S.gh _ _ g1, S.gh _ _ g2, by rw [dps_len r1, dps_len r2]; exact line24 hl, fun p hp => ?_⟩
    have eg : Ex G (upd G p (.lst (xs ++ ys))) := Ex.new (S.free hp)
    exact q.d (S.data hp (.lst (xs ++ ys))) eg (DP.lst upd_same (dpAll_ex eg (dpAll_app r1 r2))) ⟨rfl, rfl⟩
theorem ev_tadd {d1 d2 : List D} (ha : EV X R a ss O (.dat (.tuple d1)) O1) (hb : EV X R b ss O1 (.dat (.tuple d2)) O2) (hl : d1.length + d2.length ≤ 16777216) : EV X R (.BinOp a .Add b pos) ss O (.dat (.tuple (d1 ++ d2))) O2 :=
  ev_op op_catP ha hb fun G0 H0 G H σ ss x y S h1 h2 Q q => by
    obtain ⟨p1, xs, e1, g1, r1⟩ := dp_tup h1
    obtain ⟨p2, ys, e2, g2, r2⟩ := dp_tup h2
    refine ⟨p1, p2, xs, ys, e1, e2, g1.sq S.gh, g2.sq S.gh, by rw [dps_len r1, dps_len r2]; exact line24 hl, fun ex => ?_, fun nx ey => ?_, fun _ _ p o hp ho => ?_⟩
    · subst ex
      cases r1
      exact q.d S (Ex.refl G) (DP.tup g2 r2) ⟨rfl, rfl⟩
    · subst ey
      cases r2
      rw [List.append_nil] at *
      exact q.d S (Ex.refl G) (DP.tup g1 r1) ⟨rfl, rfl⟩
    · have eg : Ex G (upd G p (.frz o (.tup (xs ++ ys)))) := Ex.new (S.free hp)
      exact q.d (S.data hp _) eg (DP.tup (PTu.new ho) (dpAll_ex eg (dpAll_app r1 r2))) ⟨rfl, rfl⟩
theorem dps_rep {G : Hp} {xs : List V} {ds : List D} (h : DPs G xs ds) : ∀ n : Nat, DPs G (List.replicate n xs).flatten (List.replicate n ds).flatten
  | 0 => .nil
  | n + 1 => by
    rw [List.replicate_succ, List.replicate_succ, List.flatten_cons, List.flatten_cons]
    exact dpAll_app h (dps_rep h n)
theorem ev_lrep {d1 : List D} {n : Nat} (ha : EV X R a ss O (.dat (.list d1)) O1) (hb : EV X R b ss O1 (.dat (.int n)) O2) (hl : d1.length * n ≤ 16777216) (hn : n ≤ 16777216) : EV X R (.BinOp a .Mult b pos) ss O (.dat (.list (List.replicate n d1).flatten)) O2 :=
  ev_op op_rep ha hb fun G0 H0 G H σ ss x y S h1 h2 Q q => by
    obtain ⟨p1, xs, e1, g1, r1⟩ := dp_lst h1
    refine ⟨p1, (n : Int), xs, e1, dp_int h2, S.gh _ _ g1, by omega, by omega, by rw [dps_len r1]; exact line24 (by simpa using hl), fun p hp => ?_⟩
    have eg : Ex G (upd G p (.lst (List.replicate n xs).flatten)) := Ex.new (S.free hp)
    exact q.d (S.data hp _) eg (DP.lst upd_same (dpAll_ex eg (dps_rep r1 n))) ⟨rfl, rfl⟩

/-! ### subscripts -/
theorem atI_dps {G : Hp} {xs : List V} {ds : List D} {i : Int} {d : D} (h : DPs G xs ds) (e : atI ds i = some d) : ∃ v, atI xs i = some v ∧ DP G v d := by
  unfold atI at e ⊢
  rw [dps_len h]
  cases hi : ixN ds.length i with
  | none => rw [hi] at e; cases e
  | some j =>
    rw [hi] at e
    exact dpAll_get h e
theorem ej_ix {r : R2} (hr : IxR X r) (ha : EV X R a ss O ka O1) (hb : EV X R b ss O1 kb O2) (h : OJ X r ka kb O2 Φ) (hs : PlainIx b) : EJ X R (.Subscript a b pos) ss O Φ :=
  fun G0 H0 G H σ S L Q q => wE_of (pe_ix hr peW peW hs) (ha G0 H0 G H σ S L _ fun G1 H1 v k O1 S1 e1 r1 ⟨h1, h2⟩ => by
    subst h1 h2
    exact hb G0 H0 G1 H1 σ S1 L _ fun G2 H2 v2 k2 O2 S2 e2 r2 ⟨h3, h4⟩ => by subst h3 h4; exact h G0 H0 G2 H2 σ ss v v2 S2 (kd_ex e2 r1) r2 Q (q.ex (e1.trans e2)))
theorem ev_ixL {ds : List D} {i : Int} {d : D} (ha : EV X R a ss O (.dat (.list ds)) O1) (hb : EV X R b ss O1 (.dat (.int i)) O2) (h : atI ds i = some d) (hs : PlainIx b := by exact fun _ _ => rfl) : EV X R (.Subscript a b pos) ss O (.dat d) O2 :=
  ej_ix ix_list ha hb (fun G0 H0 G H σ ss x y S h1 h2 Q q => by
    obtain ⟨p1, xs, e1, g1, r1⟩ := dp_lst h1
    obtain ⟨v, hv, dv⟩ := atI_dps r1 h
    exact ⟨p1, xs, i, v, e1, dp_int h2, .of (S.gh _ _ g1), hv, q.d S (Ex.refl G) dv ⟨rfl, rfl⟩⟩) hs
theorem ev_ixT {ds : List D} {i : Int} {d : D} (ha : EV X R a ss O (.dat (.tuple ds)) O1) (hb : EV X R b ss O1 (.dat (.int i)) O2) (h : atI ds i = some d) (hs : PlainIx b := by exact fun _ _ => rfl) : EV X R (.Subscript a b pos) ss O (.dat d) O2 :=
  ej_ix ix_tup ha hb (fun G0 H0 G H σ ss x y S h1 h2 Q q => by
    obtain ⟨p1, xs, e1, g1, r1⟩ := dp_tup h1
    obtain ⟨v, hv, dv⟩ := atI_dps r1 h
    exact ⟨p1, xs, i, v, e1, dp_int h2, g1.sq S.gh, hv, q.d S (Ex.refl G) dv ⟨rfl, rfl⟩⟩) hs
theorem ev_ixS {s : List Nat} {i : Int} {c : Nat} (ha : EV X R a ss O (.dat (dS s)) O1) (hb : EV X R b ss O1 (.dat (.int i)) O2) (h : atI s i = some c) (hl : s.length ≤ 16777216) (hs : PlainIx b := by exact fun _ _ => rfl) : EV X R (.Subscript a b pos) ss O (.dat (dS [c])) O2 :=
  ej_ix ix_str ha hb (fun G0 H0 G H σ ss x y S h1 h2 Q q => ⟨sL s, i, c, dp_str h1, dp_int h2, by rw [sL_len]; exact line24 hl, by simpa using h, q.d S (Ex.refl G) (DP.str _) ⟨rfl, rfl⟩⟩) hs
/-- an owned list's item -/
theorem ev_ixO (j : Nat) {p : Addr} {ds : List D} {i : Int} {d : D} (ha : EV X R a ss O (.val (.ref p)) O1) (hb : EV X R b ss O1 (.dat (.int i)) O2) (hj : O2[j]? = some (p, .ol ds)) (h : atI ds i = some d) (hs : PlainIx b := by exact fun _ _ => rfl) : EV X R (.Subscript a b pos) ss O (.dat d) O2 :=
  ej_ix ix_list ha hb (fun G0 H0 G H σ ss x y S h1 h2 Q q => by
    obtain ⟨⟨vs, hv, rv⟩, _, _⟩ := S.ob _ (List.mem_of_getElem? hj)
    obtain ⟨v, hv', dv⟩ := atI_dps rv h
    exact ⟨p, vs, i, v, h1, dp_int h2, .of hv, hv', q.d S (Ex.refl G) dv ⟨rfl, rfl⟩⟩) hs
/-- slices -/
def OpI (X : Cx) (R : Addr → Prop) (e : Option Expr) (ss : List Kd) (O : Store) (o : Option Int) (O' : Store) : Prop :=
  ∃ t : TO, PO X e t ∧ ∀ G0 H0 G H σ, Sta G0 H0 G H σ ss O → Lt X R H0 → ∀ Q : Option Int → Hp → Prop, (∀ G' H', Sta G0 H0 G' H' σ ss O' → Ex G G' → Q o H') → t σ H Q
theorem op_none : OpI X R none ss O none O := ⟨_, po_none, fun G0 H0 G H σ S L Q q => q G H S (Ex.refl G)⟩
theorem op_some {i : Int} (h : EV X R e ss O (.dat (.int i)) O') : OpI X R (some e) ss O (some i) O' := ⟨_, po_some peW, fun G0 H0 G H σ S L Q q => h G0 H0 G H σ S L _ fun G1 H1 v k O1 S1 e1 r1 ⟨h1, h2⟩ => by
  subst h1 h2
  exact ⟨i, dp_int r1, q G1 H1 S1 e1⟩⟩
theorem ej_sl {r : V → Option Int → Option Int → Hp → VK → Prop} {lo hi : Option Expr} {l h : Option Int} {O3 : Store} {p2 : Pos} (hr : SlR X r) (ha : EV X R a ss O ka O1) (hl : OpI X R lo ss O1 l O2) (hh : OpI X R hi ss O2 h O3)
    (hq : ∀ G0 H0 G H σ ss x, Sta G0 H0 G H σ ss O3 → KdAt G x ka → ∀ Q : VK, Wt X G0 H0 G σ ss Φ Q → r x l h H Q) : EJ X R (.Subscript a (.Slice lo hi none p2) pos) ss O Φ := fun G0 H0 G H σ S L Q q => by
  obtain ⟨t1, p1, w1⟩ := hl
  obtain ⟨t2, p2, w2⟩ := hh
  refine wE_of (pe_slice hr peW p1 p2) (ha G0 H0 G H σ S L _ fun G1 H1 v k O1 S1 e1 r1 ⟨h1, h2⟩ => ?_)
  subst h1 h2
  refine w1 G0 H0 G1 H1 σ S1 L _ fun G2 H2 S2 e2 => w2 G0 H0 G2 H2 σ S2 L _ fun G3 H3 S3 e3 => ?_
  exact hq G0 H0 G3 H3 σ ss v S3 (kd_ex (e2.trans e3) r1) Q (q.ex ((e1.trans e2).trans e3))
/-- xs[lo:hi] of any list -/
def cut {α : Type} (xs : List α) (lo hi : Option Int) : List α := (xs.drop (HT.sIx xs.length 0 lo)).take (HT.sIx xs.length xs.length hi - HT.sIx xs.length 0 lo)
theorem dps_drop {G : Hp} : ∀ {xs : List V} {ds : List D} (n : Nat), DPs G xs ds → DPs G (xs.drop n) (ds.drop n)
  | _, _, 0, r => r
  | _, _, _ + 1, .nil => .nil
  | _, _, n + 1, .cons _ t => dps_drop n t
theorem dps_take {G : Hp} : ∀ {xs : List V} {ds : List D} (n : Nat), DPs G xs ds → DPs G (xs.take n) (ds.take n)
  | _, _, 0, _ => .nil
  | _, _, _ + 1, .nil => .nil
  | _, _, n + 1, .cons r t => .cons r (dps_take n t)
theorem dps_cut {G : Hp} {xs : List V} {ds : List D} {lo hi : Option Int} (h : DPs G xs ds) : DPs G (cutV xs lo hi) (cut ds lo hi) := by
  unfold cutV cut
  rw [dps_len h]
  exact dps_take _ (dps_drop _ h)
theorem cut_whole {α : Type} (xs : List α) {lo hi : Option Int} (h : HT.sIx xs.length 0 lo = 0 ∧ HT.sIx xs.length xs.length hi = xs.length) : cut xs lo hi = xs := by
  unfold cut
  rw [h.1, h.2, List.drop_zero, Nat.sub_zero, List.take_length]
theorem ev_slS {s : List Nat} {lo hi : Option Expr} {l h : Option Int} {O3 : Store} {p2 : Pos} (ha : EV X R a ss O (.dat (dS s)) O1) (hl : OpI X R lo ss O1 l O2) (hh : OpI X R hi ss O2 h O3) (hz : s.length ≤ 16777216) : EV X R (.Subscript a (.Slice lo hi none p2) pos) ss O (.dat (dS (cut s l h))) O3 :=
  ej_sl sl_str ha hl hh fun G0 H0 G H σ ss x S h1 Q q => ⟨sL s, dp_str h1, by rw [sL_len]; exact line24 hz, by
    have e : cutS (sL s) l h = sL (cut s l h) := by
      unfold cutS cut
      rw [sL_len]
    rw [e]
    exact q.d S (Ex.refl G) (DP.str _) ⟨rfl, rfl⟩⟩
theorem ev_slT {ds : List D} {lo hi : Option Expr} {l h : Option Int} {O3 : Store} {p2 : Pos} (ha : EV X R a ss O (.dat (.tuple ds)) O1) (hl : OpI X R lo ss O1 l O2) (hh : OpI X R hi ss O2 h O3) : EV X R (.Subscript a (.Slice lo hi none p2) pos) ss O (.dat (.tuple (cut ds l h))) O3 :=
  ej_sl sl_tupP ha hl hh fun G0 H0 G H σ ss x S h1 Q q => by
    obtain ⟨p1, xs, e1, g1, r1⟩ := dp_tup h1
    refine ⟨p1, xs, e1, g1.sq S.gh, fun z => ?_, fun _ p o hp ho => ?_⟩
    · rw [dps_len r1] at z
      rw [e1] at h1
      exact q.d S (Ex.refl G) h1 ⟨by rw [cut_whole ds z], rfl⟩
    · have eg : Ex G (upd G p (.frz o (.tup (cutV xs l h)))) := Ex.new (S.free hp)
      exact q.d (S.data hp _) eg (DP.tup (PTu.new ho) (dpAll_ex eg (dps_cut r1))) ⟨rfl, rfl⟩
theorem ev_slL {ds : List D} {lo hi : Option Expr} {l h : Option Int} {O3 : Store} {p2 : Pos} (ha : EV X R a ss O (.dat (.list ds)) O1) (hl : OpI X R lo ss O1 l O2) (hh : OpI X R hi ss O2 h O3) : EV X R (.Subscript a (.Slice lo hi none p2) pos) ss O (.dat (.list (cut ds l h))) O3 :=
  ej_sl sl_list ha hl hh fun G0 H0 G H σ ss x S h1 Q q => by
    obtain ⟨p1, xs, e1, g1, r1⟩ := dp_lst h1
    refine ⟨p1, xs, e1, .of (S.gh _ _ g1), fun p hp => ?_⟩
    have eg : Ex G (upd G p (.lst (cutV xs l h))) := Ex.new (S.free hp)
    exact q.d (S.data hp _) eg (DP.lst upd_same (dpAll_ex eg (dps_cut r1))) ⟨rfl, rfl⟩

/-! ### built-in calls -/
theorem ev_callB {id : String} {r : List V → Hp → VK → Prop} {x : Str} {p : Pos} (hc : CallR X (.builtin id) r) (hg : Gl X x) (hm : X.mg x = none) (hv : bootBuiltins x = some (.builtin id)) (ha : AV X R (e :: es) ss O ks O1) (h : CJ X r ks O1 Φ) (hn : x ≠ "__name__" := by decide) (hdb : (x == ("__debug__" : Str)) = false := by decide)
    (he : starEach (e :: es) X.env = (false, eval e X.env) :: starEach es X.env := by exact star_ne rfl) (hpl : (backTo pos (starEach es X.env)).any (·.1) = false := by rfl) : EJ X R (.Call (.Name x p) (e :: es) [] pos) ss O Φ := fun G0 H0 G H σ S L Q q =>
  wE_of (pe_callB hc hg hm hv paW hn hdb he hpl) (ha G0 H0 G H σ S L _ fun G1 H1 vs k1 O1 S1 e1 r1 ⟨h1, h2⟩ => by subst h1 h2; exact h G0 H0 G1 H1 σ ss vs S1 r1 Q (q.ex e1))
theorem ev_callTy {id : String} {r : List V → Hp → VK → Prop} {x : Str} {p : Pos} (hc : CallR X (.type id) r) (hg : Gl X x) (hm : X.mg x = none) (hv : bootBuiltins x = some (.type id)) (ha : AV X R (e :: es) ss O ks O1) (h : CJ X r ks O1 Φ) (hn : x ≠ "__name__" := by decide) (hdb : (x == ("__debug__" : Str)) = false := by decide)
    (he : starEach (e :: es) X.env = (false, eval e X.env) :: starEach es X.env := by exact star_ne rfl) (hpl : (backTo pos (starEach es X.env)).any (·.1) = false := by rfl) : EJ X R (.Call (.Name x p) (e :: es) [] pos) ss O Φ := fun G0 H0 G H σ S L Q q =>
  wE_of (pe_callTy hc hg hm hv paW hn hdb he hpl) (ha G0 H0 G H σ S L _ fun G1 H1 vs k1 O1 S1 e1 r1 ⟨h1, h2⟩ => by subst h1 h2; exact h G0 H0 G1 H1 σ ss vs S1 r1 Q (q.ex e1))
theorem kinds1 {G : Hp} {vs : List V} {k : Kd} (h : Kinds G vs [k]) : ∃ v, vs = [v] ∧ KdAt G v k := by
  cases h with
  | cons r t => cases t; exact ⟨_, rfl, r⟩
theorem kinds2 {G : Hp} {vs : List V} {k l : Kd} (h : Kinds G vs [k, l]) : ∃ v w, vs = [v, w] ∧ KdAt G v k ∧ KdAt G w l := by
  cases h with
  | cons r t => obtain ⟨w, rfl, h⟩ := kinds1 t; exact ⟨_, w, rfl, r, h⟩
theorem cj_len {d : D} {n : Nat} (h : (∃ l, d = dS l ∧ l.length = n ∧ l.length ≤ 16777216) ∨ (∃ ds, d = .list ds ∧ ds.length = n) ∨ (∃ ds, d = .tuple ds ∧ ds.length = n)) (hq : Φ (.dat (.int n)) O) :
    CJ X (fun xs H Q => ∃ x n, xs = [x] ∧ LenV X.K x H n ∧ Q (.int n) H) [.dat d] O Φ := fun G0 H0 G H σ ss xs S h1 Q q => by
  obtain ⟨v, rfl, r⟩ := kinds1 h1
  refine ⟨v, n, rfl, ?_, q.d S (Ex.refl G) (DP.int _) hq⟩
  rcases h with ⟨l, rfl, e, hl⟩ | ⟨ds, rfl, e⟩ | ⟨ds, rfl, e⟩
  · cases dp_str r
    exact ⟨by rw [sL_len]; exact line24 hl, by rw [← e]; exact sL_len l⟩
  · obtain ⟨p1, xs, rfl, g1, r1⟩ := dp_lst r
    exact .inl ⟨xs, .of (S.gh _ _ g1), ((dps_len r1).trans e).symm⟩
  · obtain ⟨p1, xs, rfl, g1, r1⟩ := dp_tup r
    exact .inr ⟨xs, g1.sq S.gh, ((dps_len r1).trans e).symm⟩
theorem ev_lenS {x : Str} {p : Pos} {s : List Nat} (ha : EV X R e ss O (.dat (dS s)) O1) (hz : s.length ≤ 16777216) (hm : X.mg "len" = none) (hx : x = "len" := by rfl) (hg : Gl X x := by rfl) (he : starEach [e] X.env = (false, eval e X.env) :: starEach [] X.env := by exact star_ne rfl) : EV X R (.Call (.Name x p) [e] [] pos) ss O (.dat (.int s.length)) O1 := by
  subst hx
  exact ev_callB call_len hg hm PySem.boot_len (av_cons ha av_nil he) (cj_len (.inl ⟨s, rfl, rfl, hz⟩) ⟨rfl, rfl⟩) (he := he)
theorem ev_lenL {x : Str} {p : Pos} {ds : List D} (ha : EV X R e ss O (.dat (.list ds)) O1) (hm : X.mg "len" = none) (hx : x = "len" := by rfl) (hg : Gl X x := by rfl) (he : starEach [e] X.env = (false, eval e X.env) :: starEach [] X.env := by exact star_ne rfl) : EV X R (.Call (.Name x p) [e] [] pos) ss O (.dat (.int ds.length)) O1 := by
  subst hx
  exact ev_callB call_len hg hm PySem.boot_len (av_cons ha av_nil he) (cj_len (.inr (.inl ⟨ds, rfl, rfl⟩)) ⟨rfl, rfl⟩) (he := he)
theorem ev_lenT {x : Str} {p : Pos} {ds : List D} (ha : EV X R e ss O (.dat (.tuple ds)) O1) (hm : X.mg "len" = none) (hx : x = "len" := by rfl) (hg : Gl X x := by rfl) (he : starEach [e] X.env = (false, eval e X.env) :: starEach [] X.env := by exact star_ne rfl) : EV X R (.Call (.Name x p) [e] [] pos) ss O (.dat (.int ds.length)) O1 := by
  subst hx
  exact ev_callB call_len hg hm PySem.boot_len (av_cons ha av_nil he) (cj_len (.inr (.inr ⟨ds, rfl, rfl⟩)) ⟨rfl, rfl⟩) (he := he)
end
end Dl
end
section
namespace Dl
open PySem PySem.Spec PyProof.Rows L2
open Evl (Ex)

/-! ### what is walked -/
/-- J yields item 0, .., item (n - 1), whatever happens meanwhile to what is not in G, as long as the store keeps need -/
structure Walks (J : It) (G : Hp) (n : Nat) (item : Nat → Kd) (need : Store → Prop) : Prop where
  go : ∀ i G0 H0 G' H' σ ss O, Sta G0 H0 G' H' σ ss O → Ex G G' → need O → i < n → J.go i H'
  yld : ∀ i G0 H0 G' H' σ ss O x H2, Sta G0 H0 G' H' σ ss O → Ex G G' → need O → i < n → J.yld i H' x H2 → ∃ G2, Sta G0 H0 G2 H2 σ ss O ∧ Ex G' G2 ∧ KdAt G2 x (item i)
  stop : ∀ G0 H0 G' H' σ ss O, Sta G0 H0 G' H' σ ss O → Ex G G' → need O → J.stop n H'
def any : Store → Prop := fun _ => True
/-- iter, for the target tg, walks these items -/
def IJ (X : Cx) (R : Addr → Prop) (tg iter : Expr) (ss : List Kd) (O : Store) (n : Nat) (item : Nat → Kd) (need : Store → Prop) (O' : Store) : Prop :=
  ∃ wi : TI, PI X tg iter wi ∧ ∀ G0 H0 G H σ, Sta G0 H0 G H σ ss O → Lt X R H0 → ∀ Rr : It → Hp → Prop, (∀ G' H' J, Sta G0 H0 G' H' σ ss O' → Ex G G' → Walks J G' n item need → Rr J H') → wi σ H Rr
/-- a target's store -/
def GJ (g : TG) (ix : List Nat) (k : Kd) (ss : List Kd) (O : Store) (Ψ : List Kd → Store → Prop) : Prop :=
  ∀ G0 H0 G H σ v, Sta G0 H0 G H σ ss O → KdAt G v k → ∀ Q : L2.St → Hp → Prop, (∀ G' H' σ' ss' O', Sta G0 H0 G' H' σ' ss' O' → Ex G G' → (∀ i, i ∉ ix → σ'[i]? = σ[i]?) → σ'.length = σ.length → Ψ ss' O' → Q σ' H') → g v σ H Q

theorem slots_len {G : Hp} {σ : L2.St} {ss : List Kd} (h : Slots G σ ss) : σ.length = ss.length := paired_len h
section
variable {X : Cx} {R : Addr → Prop} {e a b c tg iter : Expr} {es : List Expr} {ss : List Kd} {O O1 O2 O' : Store} {k ka kb : Kd} {ks : List Kd} {Φ : Kd → Store → Prop} {Ψ : List Kd → Store → Prop} {pos : Pos} {st : Stmt} {sts rest body : List Stmt} {D : DE} {g : TG} {n : Nat} {item : Nat → Kd} {need : Store → Prop} {ix : List Nat}
theorem gj_name (i : Nat) (h : Ψ (ss.set i k) O) : GJ (gName i) [i] k ss O Ψ := fun G0 H0 G H σ v S r Q q =>
  q G H _ _ O (S.set i r) (Ex.refl G) (fun j hj => List.getElem?_set_ne (by simpa [eq_comm] using hj)) (by simp) h
/-- a pair, as plain data or as a short-lived tuple -/
def isTwo (k : Kd) (d1 d2 : PyData) : Prop := k = .two d1 d2 ∨ k = .dat (.tuple [d1, d2])
theorem gj_tup2 {K : PySem.W.Frag} (i j : Nat) {d1 d2 : PyData} {k : Kd} (hk : isTwo k d1 d2) (h : Ψ ((ss.set i (.dat d1)).set j (.dat d2)) O) : GJ (gTup K 2 (gCons (gName i) (gCons (gName j) gNil))) [i, j] k ss O Ψ := fun G0 H0 G H σ v S r Q q => by
  obtain ⟨p, v1, v2, rfl, h0, h1, h2⟩ : ∃ p v1 v2, v = .ref p ∧ SqT K H p [v1, v2] ∧ DP G v1 d1 ∧ DP G v2 d2 := by
    rcases hk with rfl | rfl
    · obtain ⟨a, x, y, rfl, g1, h1, h2⟩ := r
      exact ⟨a, x, y, rfl, .of (S.gh _ _ g1), h1, h2⟩
    · obtain ⟨p, xs, rfl, g1, r1⟩ := dp_tup r
      cases r1 with
      | cons a t => cases t with
        | cons b t => cases t; exact ⟨p, _, _, rfl, g1.sq S.gh, a, b⟩
  refine ⟨p, _, rfl, h0, rfl, v1, [v2], rfl, v2, [], rfl, rfl, ?_⟩
  refine q G H _ _ O ((S.set i (k := .dat d1) h1).set j (k := .dat d2) h2) (Ex.refl G) (fun l hl => ?_) (by simp) h
  have : l ≠ i ∧ l ≠ j := by simpa using hl
  rw [List.getElem?_set_ne (Ne.symm this.2), List.getElem?_set_ne (Ne.symm this.1)]

/-- a list, a tuple of data -/
theorem ij_list {ds : List PyData} (h : EV X R iter ss O (.dat (.list ds)) O') : IJ X R tg iter ss O ds.length (fun i => .dat (ds.getD i .none)) any O' := ⟨_, pi_list peW, fun G0 H0 G H σ S L Rr q =>
  h G0 H0 G H σ S L _ fun G1 H1 v k O1 S1 e1 r1 ⟨h1, h2⟩ => by
    subst h1 h2
    obtain ⟨p, xs, rfl, g1, r⟩ := dp_lst r1
    refine ⟨p, rfl, ⟨xs, .of (S1.gh _ _ g1)⟩, q G1 H1 _ S1 e1 ⟨fun i G0 H0 G' H' σ ss O S2 e2 _ hi => ?_, fun i G0 H0 G' H' σ ss O x H2 S2 e2 _ hi y => ?_, fun G0 H0 G' H' σ ss O S2 e2 _ => ?_⟩⟩
    · obtain ⟨v, hv, _⟩ := dpAll_get r (List.getElem?_eq_getElem hi)
      exact ⟨xs, v, .of (S2.gh _ _ (e2 _ _ g1)), hv⟩
    · obtain ⟨rfl, y⟩ := y
      obtain ⟨v, hv, dv⟩ := dpAll_get r (List.getElem?_eq_getElem hi)
      have := (y xs (.of (S2.gh _ _ (e2 _ _ g1)))).symm.trans hv
      cases this
      refine ⟨G', S2, Ex.refl _, ?_⟩
      show DP G' x (ds.getD i .none)
      rw [List.getD_eq_getElem?_getD, List.getElem?_eq_getElem hi]
      exact dp_ex e2 dv
    · exact ⟨xs, .of (S2.gh _ _ (e2 _ _ g1)), Nat.le_of_eq (dps_len r)⟩⟩
theorem ij_tup {ds : List PyData} (h : EV X R iter ss O (.dat (.tuple ds)) O') : IJ X R tg iter ss O ds.length (fun i => .dat (ds.getD i .none)) any O' := ⟨_, pi_tup peW, fun G0 H0 G H σ S L Rr q =>
  h G0 H0 G H σ S L _ fun G1 H1 v k O1 S1 e1 r1 ⟨h1, h2⟩ => by
    subst h1 h2
    obtain ⟨p, xs, rfl, g1, r⟩ := dp_tup r1
    refine ⟨p, rfl, ⟨xs, g1.sq S1.gh⟩, q G1 H1 _ S1 e1 ⟨fun i G0 H0 G' H' σ ss O S2 e2 _ hi => ?_, fun i G0 H0 G' H' σ ss O x H2 S2 e2 _ hi y => ?_, fun G0 H0 G' H' σ ss O S2 e2 _ => ?_⟩⟩
    · obtain ⟨v, hv, _⟩ := dpAll_get r (List.getElem?_eq_getElem hi)
      exact ⟨xs, v, g1.sq (e2.trans S2.gh), hv⟩
    · obtain ⟨rfl, y⟩ := y
      obtain ⟨v, hv, dv⟩ := dpAll_get r (List.getElem?_eq_getElem hi)
      have := (y xs (g1.sq (e2.trans S2.gh))).symm.trans hv
      cases this
      refine ⟨G', S2, Ex.refl _, ?_⟩
      show DP G' x (ds.getD i .none)
      rw [List.getD_eq_getElem?_getD, List.getElem?_eq_getElem hi]
      exact dp_ex e2 dv
    · exact ⟨xs, g1.sq (e2.trans S2.gh), Nat.le_of_eq (dps_len r)⟩⟩
/-- an owned list of own things -/
theorem ij_own {p : Addr} {vs : List V} (h : EV X R iter ss O (.val (.ref p)) O') (hm : (p, Ob.raw (.lst vs)) ∈ O') : IJ X R tg iter ss O vs.length (fun i => .val (vs.getD i .non)) (fun O => (p, Ob.raw (.lst vs)) ∈ O) O' := ⟨_, pi_list peW, fun G0 H0 G H σ S L Rr q =>
  h G0 H0 G H σ S L _ fun G1 H1 v k O1 S1 e1 r1 ⟨h1, h2⟩ => by
    subst h1 h2
    have : v = .ref p := r1
    subst this
    have g : ∀ {G0 H0 G H : Hp} {σ : L2.St} {ss : List Kd} {O : Store}, Sta G0 H0 G H σ ss O → (p, Ob.raw (.lst vs)) ∈ O → H p = some (.lst vs) := fun S hq => (S.ob _ hq).1
    refine ⟨p, rfl, ⟨vs, .of (g S1 hm)⟩, q G1 H1 _ S1 e1 ⟨fun i G0 H0 G' H' σ ss O S2 e2 hn hi => ?_, fun i G0 H0 G' H' σ ss O x H2 S2 e2 hn hi y => ?_, fun G0 H0 G' H' σ ss O S2 e2 hn => ?_⟩⟩
    · exact ⟨vs, vs[i], .of (g S2 hn), List.getElem?_eq_getElem hi⟩
    · obtain ⟨rfl, y⟩ := y
      have := y vs (.of (g S2 hn))
      refine ⟨G', S2, Ex.refl _, ?_⟩
      show x = vs.getD i .non
      rw [List.getD_eq_getElem?_getD, this]
      rfl
    · exact ⟨vs, .of (g S2 hn), Nat.le_refl _⟩⟩
theorem ij_str {s : List Nat} (h : EV X R iter ss O (.dat (dS s)) O') : IJ X R tg iter ss O s.length (fun i => .dat (dS [s.getD i 0])) any O' := ⟨_, pi_str peW, fun G0 H0 G H σ S L Rr q =>
  h G0 H0 G H σ S L _ fun G1 H1 v k O1 S1 e1 r1 ⟨h1, h2⟩ => by
    subst h1 h2
    refine ⟨sL s, dp_str r1, q G1 H1 _ S1 e1 ⟨fun i G0 H0 G' H' σ ss O S2 e2 _ hi => ?_, fun i G0 H0 G' H' σ ss O x H2 S2 e2 _ hi y => ?_, fun G0 H0 G' H' σ ss O S2 e2 _ => ?_⟩⟩
    · show i < (sL s).length
      rw [sL_len]; exact hi
    · obtain ⟨rfl, c, hc, rfl⟩ := y
      refine ⟨G', S2, Ex.refl _, ?_⟩
      have : s[i]? = some c := by simpa using hc
      show DP G' (.str ⟨#[c]⟩) (dS [s.getD i 0])
      rw [List.getD_eq_getElem?_getD, this]
      exact DP.str _
    · show (sL s).length ≤ s.length
      rw [sL_len]; exact Nat.le_refl _⟩
theorem ij_range1 {m : Int} {p : Pos} {x : Str} (h : EV X R e ss O (.dat (.int m)) O') (h1 : -(2 ^ 62) ≤ m) (h2 : m < 2 ^ 62) (hm : X.mg "range" = none) (hx : x = "range" := by rfl) (hg : Gl X x := by rfl) (hs : starEach [e] X.env = [(false, eval e X.env)] := by exact star_ne rfl) : IJ X R tg (.Call (.Name x p) [e] [] pos) ss O m.toNat (fun i => .dat (.int i)) any O' := by
  subst hx
  refine ⟨_, pi_range1 hg hm paW hs, fun G0 H0 G H σ S L Rr q => (av_cons h av_nil hs) G0 H0 G H σ S L _ fun G1 H1 vs k O1 S1 e1 r1 ⟨h3, h4⟩ => ?_⟩
  subst h3 h4
  obtain ⟨v, rfl, r⟩ := kinds1 r1
  refine ⟨m, by rw [dp_int r], h1, h2, q G1 H1 _ S1 e1 ⟨fun i G0 H0 G' H' σ ss O S2 e2 _ hi => hi, fun i G0 H0 G' H' σ ss O x H2 S2 e2 _ hi y => ?_, fun G0 H0 G' H' σ ss O S2 e2 _ => Nat.le_refl _⟩⟩
  obtain ⟨rfl, rfl⟩ := y
  refine ⟨G', S2, Ex.refl _, ?_⟩
  rw [Int.zero_add]
  exact DP.int _
theorem ij_range2 {l m : Int} {p : Pos} {x : Str} (h : EV X R a ss O (.dat (.int l)) O1) (h' : EV X R b ss O1 (.dat (.int m)) O') (h1 : -(2 ^ 62) ≤ l ∧ l < 2 ^ 62 ∧ -(2 ^ 62) ≤ m ∧ m < 2 ^ 62) (hm : X.mg "range" = none) (hx : x = "range" := by rfl) (hg : Gl X x := by rfl)
    (hs : starEach [a, b] X.env = [(false, eval a X.env), (false, eval b X.env)] := by exact star_ne rfl) (hs2 : starEach [b] X.env = [(false, eval b X.env)] := by exact star_ne rfl) : IJ X R tg (.Call (.Name x p) [a, b] [] pos) ss O (m - l).toNat (fun i => .dat (.int (l + i))) any O' := by
  subst hx
  refine ⟨_, pi_range2 hg hm paW hs hs2, fun G0 H0 G H σ S L Rr q => (av_cons h (av_cons h' av_nil hs2) (by rw [hs, hs2])) G0 H0 G H σ S L _ fun G1 H1 vs k O1 S1 e1 r1 ⟨h3, h4⟩ => ?_⟩
  subst h3 h4
  obtain ⟨v, w, rfl, r, r'⟩ := kinds2 r1
  refine ⟨l, m, by rw [dp_int r, dp_int r'], h1, q G1 H1 _ S1 e1 ⟨fun i G0 H0 G' H' σ ss O S2 e2 _ hi => hi, fun i G0 H0 G' H' σ ss O x H2 S2 e2 _ hi y => ?_, fun G0 H0 G' H' σ ss O S2 e2 _ => Nat.le_refl _⟩⟩
  obtain ⟨rfl, rfl⟩ := y
  exact ⟨G', S2, Ex.refl _, DP.int _⟩
/-- range(n - 1, -1, -1) and its like -/
theorem ij_range3 {l m s : Int} {n : Nat} {p : Pos} {x : Str} (h : EV X R a ss O (.dat (.int l)) O1) (h' : EV X R b ss O1 (.dat (.int m)) O2) (h'' : EV X R c ss O2 (.dat (.int s)) O') (hr : RgC l m s n) (hm : X.mg "range" = none) (hx : x = "range" := by rfl) (hg : Gl X x := by rfl)
    (hs : starEach [a, b, c] X.env = (false, eval a X.env) :: starEach [b, c] X.env := by exact star_ne rfl) (hs2 : starEach [b, c] X.env = (false, eval b X.env) :: starEach [c] X.env := by exact star_ne rfl) (hs3 : starEach [c] X.env = (false, eval c X.env) :: starEach [] X.env := by exact star_ne rfl) (hpl : (backTo pos (starEach [b, c] X.env)).any (·.1) = false := by rfl) :
    IJ X R tg (.Call (.Name x p) [a, b, c] [] pos) ss O n (fun i => .dat (.int (l + i * s))) any O' := by
  subst hx
  refine ⟨_, pi_range3 hg hm paW hs hpl, fun G0 H0 G H σ S L Rr q => (av_cons h (av_cons h' (av_cons h'' av_nil hs3) hs2) hs) G0 H0 G H σ S L _ fun G1 H1 vs k O1 S1 e1 r1 ⟨h3, h4⟩ => ?_⟩
  subst h3 h4
  obtain ⟨v, w, u, rfl, r, r', r''⟩ : ∃ v w u, vs = [v, w, u] ∧ KdAt G1 v (.dat (.int l)) ∧ KdAt G1 w (.dat (.int m)) ∧ KdAt G1 u (.dat (.int s)) := by
    cases r1 with
    | cons a t => obtain ⟨w, u, rfl, r', r''⟩ := kinds2 t; exact ⟨_, w, u, rfl, a, r', r''⟩
  refine ⟨l, m, s, n, by rw [dp_int r, dp_int r', dp_int r''], hr, q G1 H1 _ S1 e1 ⟨fun i G0 H0 G' H' σ ss O S2 e2 _ hi => hi, fun i G0 H0 G' H' σ ss O x H2 S2 e2 _ hi y => ?_, fun G0 H0 G' H' σ ss O S2 e2 _ => Nat.le_refl _⟩⟩
  obtain ⟨rfl, rfl⟩ := y
  exact ⟨G', S2, Ex.refl _, DP.int _⟩
theorem dpk_get {G : Hp} : ∀ {ws : List (Key × V)} {kvs : List (Str × PyData)} {i : Nat} {s : Str} {d : PyData}, KvD G ws kvs → kvs[i]? = some (s, d) → ∃ v, ws[i]? = some (.inr s, v) ∧ DP G v d := fun {ws kvs i s d} h e => by
  obtain ⟨⟨x, v⟩, h1, h2, h3⟩ := paired_get h e
  have : x = .inr s := h2
  subst this
  exact ⟨v, h1, h3⟩
theorem dp_dict {G : Hp} {x : V} {kvs : List (Str × PyData)} (h : DP G x (dK kvs)) : ∃ a o ws, x = .ref a ∧ G a = some (.frz o (.dK ws)) ∧ KvD G ws kvs := by
  unfold dK at h
  cases h with
  | dct h a => exact ⟨_, _, _, rfl, h, dpk_of a⟩
theorem kv_len {G : Hp} {ws : List (Key × V)} {kvs : List (Str × PyData)} (h : KvD G ws kvs) : ws.length = kvs.length := paired_len h
/-- for x in d; d.keys() alike -/
theorem ij_keys {kvs : List (Str × PyData)} (h : EV X R iter ss O (.dat (dK kvs)) O') : IJ X R tg iter ss O kvs.length (fun i => .dat (.str (kvs.getD i (⟨#[]⟩, .none)).1)) any O' := ⟨_, pi_keys peW, fun G0 H0 G H σ S L Rr q =>
  h G0 H0 G H σ S L _ fun G1 H1 v k O1 S1 e1 r1 ⟨h1, h2⟩ => by
    subst h1 h2
    obtain ⟨p, o, ws, rfl, g1, r⟩ := dp_dict r1
    refine ⟨p, o, rfl, .inl ⟨ws, S1.gh _ _ g1, q G1 H1 _ S1 e1 ⟨fun i G0 H0 G' H' σ ss O S2 e2 _ hi => ⟨S2.gh _ _ (e2 _ _ g1), by rw [kv_len r]; exact hi⟩, fun i G0 H0 G' H' σ ss O x H2 S2 e2 _ hi y => ?_, fun G0 H0 G' H' σ ss O S2 e2 _ => ⟨S2.gh _ _ (e2 _ _ g1), Nat.le_of_eq (kv_len r)⟩⟩⟩⟩
    obtain ⟨rfl, k, v, hk, rfl⟩ := y
    obtain ⟨⟨s, d⟩, hs⟩ : ∃ q, kvs[i]? = some q := ⟨_, List.getElem?_eq_getElem hi⟩
    obtain ⟨v', hv', _⟩ := dpk_get r hs
    rw [hk] at hv'
    cases hv'
    refine ⟨G', S2, Ex.refl _, ?_⟩
    show DP G' (.str s) (.str (kvs.getD i (⟨#[]⟩, .none)).1)
    rw [List.getD_eq_getElem?_getD, hs]
    exact DP.str _⟩
/-- for k, v in d.items() -/
theorem ij_items {kvs : List (Str × PyData)} {elts : List Expr} {kk : Nat} {tpos apos cpos : Pos} (h : EV X R e ss O (.dat (dK kvs)) O') (hbase : attributeBase e "items" X.env (eval e X.env) = eval e X.env := by rfl) (hline : (apos.endLine == cpos.line) = true := by rfl) :
    IJ X R (.Tuple elts kk tpos) (.Call (.Attribute e "items" apos) [] [] cpos) ss O kvs.length (fun i => .two (.str (kvs.getD i (⟨#[]⟩, .none)).1) (kvs.getD i (⟨#[]⟩, .none)).2) any O' := ⟨_, pi_items peW hbase hline, fun G0 H0 G H σ S L Rr q =>
  h G0 H0 G H σ S L _ fun G1 H1 v k O1 S1 e1 r1 ⟨h1, h2⟩ => by
    subst h1 h2
    obtain ⟨p, o, ws, rfl, g1, r⟩ := dp_dict r1
    refine ⟨p, o, ws, rfl, S1.gh _ _ g1, q G1 H1 _ S1 e1 ⟨fun i G0 H0 G' H' σ ss O S2 e2 _ hi => ⟨S2.gh _ _ (e2 _ _ g1), by rw [kv_len r]; exact hi⟩, fun i G0 H0 G' H' σ ss O x H2 S2 e2 _ hi y => ?_, fun G0 H0 G' H' σ ss O S2 e2 _ => ⟨S2.gh _ _ (e2 _ _ g1), Nat.le_of_eq (kv_len r)⟩⟩⟩
    obtain ⟨T, k, v, hk, rfl, hT, rfl⟩ := y
    obtain ⟨⟨s, d⟩, hs⟩ : ∃ q, kvs[i]? = some q := ⟨_, List.getElem?_eq_getElem hi⟩
    obtain ⟨v', hv', dv⟩ := dpk_get r hs
    rw [hk] at hv'
    cases hv'
    have eg : Ex G' (upd G' T (.tup [.str s, v])) := Ex.new (S2.free hT)
    refine ⟨_, S2.data hT _, eg, ?_⟩
    simp only [List.getD_eq_getElem?_getD, hs, Option.getD_some]
    exact ⟨T, _, _, rfl, upd_same, .str s, dp_ex (e2.trans eg) dv⟩⟩
/-- zip of two tuples, of two lists -/
theorem ij_zipT {d1 d2 : List PyData} {elts : List Expr} {kk : Nat} {p tpos : Pos} {x : Str} (h : EV X R a ss O (.dat (.tuple d1)) O1) (h' : EV X R b ss O1 (.dat (.tuple d2)) O') (hm : X.mg "zip" = none) (hx : x = "zip" := by rfl) (hg : Gl X x := by rfl)
    (hs : starEach [a, b] X.env = (false, eval a X.env) :: starEach [b] X.env := by exact star_ne rfl) (hs2 : starEach [b] X.env = (false, eval b X.env) :: starEach [] X.env := by exact star_ne rfl) (hpl : (backTo pos (starEach [b] X.env)).any (·.1) = false := by rfl) :
    IJ X R (.Tuple elts kk tpos) (.Call (.Name x p) [a, b] [] pos) ss O (min d1.length d2.length) (fun i => .two (d1.getD i .none) (d2.getD i .none)) any O' := by
  subst hx
  refine ⟨_, RZ.pi_zipA hg hm paW hs hpl, fun G0 H0 G H σ S L Rr q => (av_cons h (av_cons h' av_nil hs2) hs) G0 H0 G H σ S L _ fun G1 H1 vs k O1 S1 e1 r1 ⟨h3, h4⟩ => ?_⟩
  subst h3 h4
  obtain ⟨v, w, rfl, r, r'⟩ := kinds2 r1
  obtain ⟨p1, xs, rfl, g1, t1⟩ := dp_tup r
  obtain ⟨p2, ys, rfl, g2, t2⟩ := dp_tup r'
  refine ⟨p1, p2, xs, ys, rfl, .inr ⟨g1.sq S1.gh, g2.sq S1.gh, q G1 H1 _ S1 e1 ⟨fun i G0 H0 G' H' σ ss O S2 e2 _ hi => ?_, fun i G0 H0 G' H' σ ss O x H2 S2 e2 _ hi y => ?_, fun G0 H0 G' H' σ ss O S2 e2 _ => ?_⟩⟩⟩
  · obtain ⟨v1, hv1, _⟩ := dpAll_get t1 (List.getElem?_eq_getElem (Nat.lt_of_lt_of_le hi (Nat.min_le_left _ _)))
    obtain ⟨v2, hv2, _⟩ := dpAll_get t2 (List.getElem?_eq_getElem (Nat.lt_of_lt_of_le hi (Nat.min_le_right _ _)))
    exact ⟨xs, ys, v1, v2, g1.sq (e2.trans S2.gh), g2.sq (e2.trans S2.gh), hv1, hv2⟩
  · have l1 := Nat.lt_of_lt_of_le hi (Nat.min_le_left _ _)
    have l2 := Nat.lt_of_lt_of_le hi (Nat.min_le_right _ _)
    obtain ⟨v1, hv1, dv1⟩ := dpAll_get t1 (List.getElem?_eq_getElem l1)
    obtain ⟨v2, hv2, dv2⟩ := dpAll_get t2 (List.getElem?_eq_getElem l2)
    obtain ⟨T, x1, x2, rfl, hT, rfl, f1, f2⟩ := y
    have z1 : x1 = v1 := Option.some.inj ((f1 xs (g1.sq (e2.trans S2.gh))).symm.trans hv1)
    have z2 : x2 = v2 := Option.some.inj ((f2 ys (g2.sq (e2.trans S2.gh))).symm.trans hv2)
    subst z1 z2
    have eg : Ex G' (upd G' T (.tup [x1, x2])) := Ex.new (S2.free hT)
    refine ⟨_, S2.data hT _, eg, ?_⟩
    simp only [List.getD_eq_getElem?_getD, List.getElem?_eq_getElem l1, List.getElem?_eq_getElem l2, Option.getD_some]
    exact ⟨T, _, _, rfl, upd_same, dp_ex (e2.trans eg) dv1, dp_ex (e2.trans eg) dv2⟩
  · refine ⟨xs, ys, g1.sq (e2.trans S2.gh), g2.sq (e2.trans S2.gh), ?_⟩
    rw [dps_len t1, dps_len t2]
    omega
theorem ij_zipL {d1 d2 : List PyData} {elts : List Expr} {kk : Nat} {p tpos : Pos} {x : Str} (h : EV X R a ss O (.dat (.list d1)) O1) (h' : EV X R b ss O1 (.dat (.list d2)) O') (hm : X.mg "zip" = none) (hx : x = "zip" := by rfl) (hg : Gl X x := by rfl)
    (hs : starEach [a, b] X.env = (false, eval a X.env) :: starEach [b] X.env := by exact star_ne rfl) (hs2 : starEach [b] X.env = (false, eval b X.env) :: starEach [] X.env := by exact star_ne rfl) (hpl : (backTo pos (starEach [b] X.env)).any (·.1) = false := by rfl) :
    IJ X R (.Tuple elts kk tpos) (.Call (.Name x p) [a, b] [] pos) ss O (min d1.length d2.length) (fun i => .two (d1.getD i .none) (d2.getD i .none)) any O' := by
  subst hx
  refine ⟨_, pi_zip hg hm paW hs hpl, fun G0 H0 G H σ S L Rr q => (av_cons h (av_cons h' av_nil hs2) hs) G0 H0 G H σ S L _ fun G1 H1 vs k O1 S1 e1 r1 ⟨h3, h4⟩ => ?_⟩
  subst h3 h4
  obtain ⟨v, w, rfl, r, r'⟩ := kinds2 r1
  obtain ⟨p1, xs, rfl, g1, t1⟩ := dp_lst r
  obtain ⟨p2, ys, rfl, g2, t2⟩ := dp_lst r'
  refine ⟨p1, p2, xs, ys, rfl, .of (S1.gh _ _ g1), .of (S1.gh _ _ g2), q G1 H1 _ S1 e1 ⟨fun i G0 H0 G' H' σ ss O S2 e2 _ hi => ?_, fun i G0 H0 G' H' σ ss O x H2 S2 e2 _ hi y => ?_, fun G0 H0 G' H' σ ss O S2 e2 _ => ?_⟩⟩
  · obtain ⟨v1, hv1, _⟩ := dpAll_get t1 (List.getElem?_eq_getElem (Nat.lt_of_lt_of_le hi (Nat.min_le_left _ _)))
    obtain ⟨v2, hv2, _⟩ := dpAll_get t2 (List.getElem?_eq_getElem (Nat.lt_of_lt_of_le hi (Nat.min_le_right _ _)))
    exact ⟨xs, ys, v1, v2, .of (S2.gh _ _ (e2 _ _ g1)), .of (S2.gh _ _ (e2 _ _ g2)), hv1, hv2⟩
  · have l1 := Nat.lt_of_lt_of_le hi (Nat.min_le_left _ _)
    have l2 := Nat.lt_of_lt_of_le hi (Nat.min_le_right _ _)
    obtain ⟨v1, hv1, dv1⟩ := dpAll_get t1 (List.getElem?_eq_getElem l1)
    obtain ⟨v2, hv2, dv2⟩ := dpAll_get t2 (List.getElem?_eq_getElem l2)
    obtain ⟨T, x1, x2, rfl, hT, rfl, f1, f2⟩ := y
    have z1 : x1 = v1 := Option.some.inj ((f1 xs (.of (S2.gh _ _ (e2 _ _ g1)))).symm.trans hv1)
    have z2 : x2 = v2 := Option.some.inj ((f2 ys (.of (S2.gh _ _ (e2 _ _ g2)))).symm.trans hv2)
    subst z1 z2
    have eg : Ex G' (upd G' T (.tup [x1, x2])) := Ex.new (S2.free hT)
    refine ⟨_, S2.data hT _, eg, ?_⟩
    simp only [List.getD_eq_getElem?_getD, List.getElem?_eq_getElem l1, List.getElem?_eq_getElem l2, Option.getD_some]
    exact ⟨T, _, _, rfl, upd_same, dp_ex (e2.trans eg) dv1, dp_ex (e2.trans eg) dv2⟩
  · refine ⟨xs, ys, .of (S2.gh _ _ (e2 _ _ g1)), .of (S2.gh _ _ (e2 _ _ g2)), ?_⟩
    rw [dps_len t1, dps_len t2]
    omega

/-! ### for -/
theorem s1_for (Inv : Nat → List Kd → Store → Prop) (hi : IJ X R tg iter ss O n item need O') (hg : PG X tg g) (hp : PassesOwn (model X.prog X.w) X.A X.env X.xe) (hc : X.calm = true) (h0 : Inv 0 ss O') (hn : ∀ i ss O, Inv i ss O → need O)
    (hb : ∀ i ss1 O1, i < n → Inv i ss1 O1 → GJ g ix (item i) ss1 O1 fun ss2 O2 => SJ X R body ss2 O2 { D with nx := Inv (i + 1), ct := Inv (i + 1), bk := D.nx }) (hd : ∀ ss1 O1, Inv n ss1 O1 → D.nx ss1 O1)
    (hs : ∀ x, foldedSetIterable iter X.env x = pure x := by intro _; rfl) : S1 X R (.For tg iter body [] pos) ss O D := fun G0 H0 G H σ S L E s => by
  obtain ⟨wi, hwi, w⟩ := hi
  refine wS_of (ps_for hp hc hwi hg pssW hs) (w G0 H0 G H σ S L _ fun G1 H1 J S1 e1 wk => ?_)
  refine ⟨fun i m σ' H' => m = n - i ∧ i ≤ n ∧ ∃ ss' O' G', Sta G0 H0 G' H' σ' ss' O' ∧ Ex G1 G' ∧ Inv i ss' O', ⟨n, by simp, Nat.zero_le _, ss, O', G1, S1, Ex.refl _, h0⟩, ?_⟩
  rintro i m σ' H' ⟨rfl, hi, ss', O2, G', S', e', iv⟩
  by_cases hlt : i < n
  · refine .inr ⟨wk.go i G0 H0 G' H' σ' ss' O2 S' e' (hn _ _ _ iv) hlt, fun σ2 H2 => ∃ ss2 O3 G2, Sta G0 H0 G2 H2 σ2 ss2 O3 ∧ Ex G1 G2 ∧ Inv (i + 1) ss2 O3, fun σ2 H2 ⟨ss2, O3, G2, S2, e2, iv2⟩ => ⟨n - (i + 1), by omega, rfl, by omega, ss2, O3, G2, S2, e2, iv2⟩, fun x H2 y => ?_⟩
    obtain ⟨G2, S2, e2, dx⟩ := wk.yld i G0 H0 G' H' σ' ss' O2 x H2 S' e' (hn _ _ _ iv) hlt y
    refine hb i ss' O2 hlt iv G0 H0 G2 H2 σ' x S2 dx _ fun G3 H3 σ3 ss3 O3 S3 e3 _ _ sj => ?_
    refine sj G0 H0 G3 H3 σ3 S3 L _ ⟨fun G4 H4 σ4 ss4 O4 S4 e4 p => ⟨ss4, O4, G4, S4, (((e'.trans e2).trans e3).trans e4), p⟩, fun G4 H4 σ4 ss4 v k O4 S4 e4 r p => s.rt G4 H4 σ4 ss4 v k O4 S4 ((((e1.trans e').trans e2).trans e3).trans e4) r p,
      fun G4 H4 σ4 ss4 O4 S4 e4 p => s.nx G4 H4 σ4 ss4 O4 S4 ((((e1.trans e').trans e2).trans e3).trans e4) p, fun G4 H4 σ4 ss4 O4 S4 e4 p => ⟨ss4, O4, G4, S4, (((e'.trans e2).trans e3).trans e4), p⟩⟩
  · have e : i = n := by omega
    subst e
    exact .inl ⟨wk.stop G0 H0 G' H' σ' ss' O2 S' e' (hn _ _ _ iv), s.nx G' H' σ' ss' O2 S' (e1.trans e') (hd _ _ iv)⟩
/-- while -/
theorem s1_while (Inv : Nat → List Kd → Store → Prop) (m0 : Nat) (hp : PassesOwn (model X.prog X.w) X.A X.env X.xe) (h0 : Inv m0 ss O)
    (hb : ∀ m ss1 O1, Inv m ss1 O1 → ∃ b' O2, TV X R c ss1 O1 b' O2 ∧ (b' = true → ∃ N : List Kd → Store → Prop, (∀ ss2 O3, N ss2 O3 → ∃ m', m' < m ∧ Inv m' ss2 O3) ∧ SJ X R body ss1 O2 { D with nx := N, ct := N, bk := D.nx }) ∧ (b' = false → D.nx ss1 O2)) : S1 X R (.While c body [] pos) ss O D := fun G0 H0 G H σ S L E s => by
  refine wS_of (ps_while hp ptW pssW) ⟨fun m σ' H' => ∃ ss' O' G', Sta G0 H0 G' H' σ' ss' O' ∧ Ex G G' ∧ Inv m ss' O', ⟨m0, ss, O, G, S, Ex.refl _, h0⟩, ?_⟩
  rintro m σ' H' ⟨ss', O1, G', S', e', iv⟩
  obtain ⟨b', O2, tc, h1, h2⟩ := hb m ss' O1 iv
  refine tc G0 H0 G' H' σ' S' L _ fun G1 H1 v O3 S1 e1 ⟨h3, h4⟩ => ?_
  subst h3 h4
  cases v with
  | true =>
    obtain ⟨N, hN, sj⟩ := h1 rfl
    rw [if_pos rfl]
    refine ⟨fun σ2 H2 => ∃ ss2 O3 G2, Sta G0 H0 G2 H2 σ2 ss2 O3 ∧ Ex G G2 ∧ N ss2 O3, fun σ2 H2 ⟨ss2, O3, G2, S2, e2, n2⟩ => ?_, ?_⟩
    · obtain ⟨m', hm, iv'⟩ := hN _ _ n2
      exact ⟨m', hm, ss2, O3, G2, S2, e2, iv'⟩
    · exact sj G0 H0 G1 H1 σ' S1 L _ ⟨fun G4 H4 σ4 ss4 O4 S4 e4 p => ⟨ss4, O4, G4, S4, (e'.trans e1).trans e4, p⟩, fun G4 H4 σ4 ss4 v k O4 S4 e4 r p => s.rt G4 H4 σ4 ss4 v k O4 S4 ((e'.trans e1).trans e4) r p,
        fun G4 H4 σ4 ss4 O4 S4 e4 p => s.nx G4 H4 σ4 ss4 O4 S4 ((e'.trans e1).trans e4) p, fun G4 H4 σ4 ss4 O4 S4 e4 p => ⟨ss4, O4, G4, S4, (e'.trans e1).trans e4, p⟩⟩
  | false =>
    rw [if_neg Bool.false_ne_true]
    exact s.nx G1 H1 σ' ss' _ S1 (e'.trans e1) (h2 rfl)
end
end Dl
end
section
namespace Dl
open PySem PySem.Spec PyProof.Rows L2
open Evl (Ex)

/-! ### an object set aside -/
def aside (H0 H : Hp) (p : Addr) : Hp := fun a => if a = p then H p else H0 a
theorem aside_at {H0 H : Hp} {p : Addr} : aside H0 H p p = H p := if_pos rfl
theorem aside_ne {H0 H : Hp} {p a : Addr} (h : a ≠ p) : aside H0 H p a = H0 a := if_neg h
section
variable {G0 H0 G H : Hp} {σ : L2.St} {ss : List Kd} {O : Store}
theorem aside_le {p : Addr} (h : H0 p = none) : Ex H0 (aside H0 H p) := fun a o e => by
  have : a ≠ p := fun z => by rw [z, h] at e; cases e
  rw [aside_ne this]; exact e
theorem Sta.hide {p : Addr} {b : Ob} (S : Sta G0 H0 G H σ ss ((p, b) :: O)) : Sta G0 (aside H0 H p) G H σ ss O ∧ Ex H0 (aside H0 H p) := by
  obtain ⟨ob, gp, hp⟩ := S.ob _ List.mem_cons_self
  have np : p ∉ O.map (·.1) := (List.nodup_cons.mp S.nd).1
  refine ⟨⟨S.g0, fun a o e => ?_, S.gh, fun a o e => ?_, S.sl, (List.nodup_cons.mp S.nd).2, fun q hq => ?_⟩, aside_le hp⟩
  · by_cases ha : a = p
    · subst ha; rw [aside_at] at e; exact e
    · rw [aside_ne ha] at e; exact S.h0 a o e
  · by_cases ha : a = p
    · subst ha
      have : G a = none := gp
      rw [this] at e; cases e
    · rw [aside_ne ha]; exact S.fr a o e
  · obtain ⟨a, b, c⟩ := S.ob q (List.mem_cons_of_mem _ hq)
    have : q.1 ≠ p := fun z => np (List.mem_map.mpr ⟨q, hq, z⟩)
    exact ⟨a, b, by rw [aside_ne this]; exact c⟩
theorem Sta.unhide {p : Addr} {b : Ob} {H1 G1 H2 G2 : Hp} {σ' : L2.St} {ss' : List Kd} {O' : Store} (S : Sta G0 H0 G1 H1 σ ss ((p, b) :: O)) (S2 : Sta G0 (aside H0 H1 p) G2 H2 σ' ss' O') (e : Ex G1 G2) : Sta G0 H0 G2 H2 σ' ss' ((p, b) :: O') := by
  obtain ⟨ob, gp, hp⟩ := S.ob _ List.mem_cons_self
  obtain ⟨o, ho⟩ := ob_some ob
  have a0 : aside H0 H1 p p = some o := aside_at.trans ho
  have h2 : H2 p = H1 p := by rw [ho]; exact S2.h0 p o a0
  have le := aside_le (H := H1) hp
  have g2 : G2 p = none := by
    cases z : G2 p with
    | none => rfl
    | some u =>
      rcases S2.fr p u z with y | y
      · have y2 := S.g0 p u y
        have : G1 p = none := gp
        rw [this] at y2; cases y2
      · rw [a0] at y; cases y
  refine ⟨S2.g0, le.trans S2.h0, S2.gh, fun a u z => ?_, S2.sl, List.nodup_cons.mpr ⟨fun hm => ?_, S2.nd⟩, fun q hq => ?_⟩
  · rcases S2.fr a u z with y | y
    · exact .inl y
    · refine .inr ?_
      cases w : H0 a with
      | none => rfl
      | some v => rw [le a v w] at y; cases y
  · obtain ⟨q, hq, z⟩ := List.mem_map.mp hm
    have := (S2.ob q hq).2.2
    rw [z, a0] at this; cases this
  · rcases List.mem_cons.mp hq with rfl | hq
    · exact ⟨ob_ex e h2 ob, g2, hp⟩
    · obtain ⟨x, y, z⟩ := S2.ob q hq
      refine ⟨x, y, ?_⟩
      cases w : H0 q.1 with
      | none => rfl
      | some v => rw [le _ v w] at z; cases z
end
theorem Lt.mono {X : Cx} {R : Addr → Prop} {H0 H0' : Hp} (L : Lt X R H0) (e : Ex H0 H0') : Lt X R H0' := fun C hC σ H' e' => L C hC σ H' (e.trans e')
/-- what an expression does is done beside another object too -/
theorem EJ.frame {X : Cx} {R : Addr → Prop} {e : Expr} {ss : List Kd} {O : Store} {q : Addr × Ob} {Φ : Kd → Store → Prop} (h : EJ X R e ss O Φ) : EJ X R e ss (q :: O) fun k O' => ∃ O1, O' = q :: O1 ∧ Φ k O1 := fun G0 H0 G H σ S L Q w => by
  obtain ⟨S', le⟩ := S.hide
  exact h G0 _ G H σ S' (L.mono le) Q fun G1 H1 v k O1 S1 e1 r1 p1 => w G1 H1 v k _ (S.unhide S1 e1) e1 r1 ⟨O1, rfl, p1⟩
theorem TJ.frame {X : Cx} {R : Addr → Prop} {e : Expr} {ss : List Kd} {O : Store} {q : Addr × Ob} {Φ : Bool → Store → Prop} (h : TJ X R e ss O Φ) : TJ X R e ss (q :: O) fun k O' => ∃ O1, O' = q :: O1 ∧ Φ k O1 := fun G0 H0 G H σ S L Q w => by
  obtain ⟨S', le⟩ := S.hide
  exact h G0 _ G H σ S' (L.mono le) Q fun G1 H1 k O1 S1 e1 p1 => w G1 H1 k _ (S.unhide S1 e1) e1 ⟨O1, rfl, p1⟩

/-! ### comprehensions -/
def wipeK (ss : List Kd) : List Nat → List Kd
  | [] => ss
  | v :: vs => (wipeK ss vs).set v .und
theorem slots_wipe {G : Hp} {σ : L2.St} {ss : List Kd} (h : Slots G σ ss) : ∀ vs : List Nat, Slots G (wipe σ vs) (wipeK ss vs)
  | [] => h
  | v :: vs => by
    unfold wipe wipeK
    exact paired_set trivial v (slots_wipe h vs)
theorem wipe_get {σ : L2.St} {i : Nat} : ∀ {vs : List Nat}, (wipe σ vs)[i]? = if i ∈ vs ∧ i < σ.length then some none else σ[i]?
  | [] => by simp [wipe]
  | v :: vs => by
    unfold wipe
    by_cases h : v = i
    · subst h
      by_cases hl : v < σ.length
      · rw [List.getElem?_set_self (by rw [wipe_length]; exact hl), if_pos ⟨List.mem_cons_self, hl⟩]
      · rw [if_neg fun z => hl z.2, List.getElem?_eq_none (by rw [List.length_set, wipe_length]; omega), List.getElem?_eq_none (by omega)]
    · rw [List.getElem?_set_ne h, wipe_get]
      have : i ∈ v :: vs ↔ i ∈ vs := by simp [Ne.symm h]
      simp only [this]
theorem wipe_again {σ σ2 : L2.St} {vs ix : List Nat} (hx : ∀ i ∈ ix, i ∈ vs) (h : ∀ i, i ∉ ix → σ2[i]? = (wipe σ vs)[i]?) (hl : σ2.length = (wipe σ vs).length) : wipe σ2 vs = wipe σ vs := by
  rw [wipe_length] at hl
  refine List.ext_getElem? fun i => ?_
  rw [wipe_get, wipe_get, hl]
  by_cases c : i ∈ vs ∧ i < σ.length
  · rw [if_pos c, if_pos c]
  · rw [if_neg c, if_neg c]
    by_cases m : i ∈ ix
    · have : ¬ i < σ.length := fun z => c ⟨hx i m, z⟩
      rw [List.getElem?_eq_none (by omega), List.getElem?_eq_none (by omega)]
    · rw [h i m, wipe_get, if_neg c]
abbrev Bk (X : Cx) (scope : Scope) (s : Shared) (H : Hp) (C : Addr) (cl : List (Str × Addr)) (fp : List Addr) : Cx := X.blk s H scope (compEnvC scope cl C X.env) fp
def bE (X : Cx) (scope : Scope) (e : Expr) : TE := fun σ H Q => ∀ s H' C cl fp, wE (Bk X scope s H' C cl fp) e σ H Q
def bT (X : Cx) (scope : Scope) (e : Expr) : TT := fun σ H Q => ∀ s H' C cl fp, wT (Bk X scope s H' C cl fp) e σ H Q
/-- in the block of a comprehension -/
def BE (X : Cx) (scope : Scope) (e : Expr) (ss : List Kd) (O : Store) (Φ : Kd → Store → Prop) : Prop := ∀ s H C cl fp, EJ (Bk X scope s H C cl fp) No e ss O Φ
def BT (X : Cx) (scope : Scope) (e : Expr) (ss : List Kd) (O : Store) (Φ : Bool → Store → Prop) : Prop := ∀ s H C cl fp, TJ (Bk X scope s H C cl fp) No e ss O Φ
section
variable {X : Cx} {R : Addr → Prop} {e a b c tg iter elt : Expr} {es ifs : List Expr} {ss : List Kd} {O O1 O2 O' : Store} {k ka kb : Kd} {ks : List Kd} {Φ : Kd → Store → Prop} {pos : Pos} {D : DE} {g : TG} {n : Nat} {item : Nat → Kd} {need : Store → Prop} {ix : List Nat} {scope : Scope} {own : List (Str × Nat)}
/-- the reading of a comprehension -/
theorem lc_read {tt : TT} (Inv : Nat → List Kd → Store → Prop) (hix : ∀ i ∈ ix, i ∈ own.map (·.2))
    (hn : ∀ i acc O, Inv i acc O → need O) (hl : ∀ i acc O, Inv i acc O → acc.length ≤ i) (hm : n ≤ 16777216)
    (hb : ∀ i acc O2, i < n → Inv i acc O2 → GJ g ix (item i) (wipeK ss (own.map (·.2))) O2 fun ss2 O3 => ∀ G0 H0 G H σ2, Sta G0 H0 G H σ2 ss2 O3 → ∀ Q : Bool → Hp → Prop,
      (∀ G' H' b O4, Sta G0 H0 G' H' σ2 ss2 O4 → Ex G G' → (if b = true then BE X scope elt ss2 O4 fun k O5 => Inv (i + 1) (acc ++ [k]) O5 else Inv (i + 1) acc O4) → Q b H') → tt σ2 H Q)
    {wi : TI} {G0 H0 G H : Hp} {σ : L2.St} (w : ∀ Rr : It → Hp → Prop, (∀ G' H' J, Sta G0 H0 G' H' σ ss O1 → Ex G G' → Walks J G' n item need → Rr J H') → wi σ H Rr) (h0 : Inv 0 [] O1) (Q : VK)
    (q : ∀ G' H' p acc O2, Sta G0 H0 G' H' σ ss ((p, .okl acc) :: O2) → Ex G G' → Inv n acc O2 → Q (.ref p) H') : tLc wi g tt (bE X scope elt) (own.map (·.2)) σ H Q := by
  refine w _ fun G1 H1 J S1 e1 wk => ?_
  intro Dl hD
  have start : Sta G0 H0 G1 (upd H1 Dl (.lst [])) (wipe σ (own.map (·.2))) (wipeK ss (own.map (·.2))) ((Dl, .okl []) :: O1) := (S1.new hD (b := .okl []) ⟨[], upd_same, .nil⟩).slots (slots_wipe S1.sl _)
  refine ⟨fun i m H' => m = n - i ∧ i ≤ n ∧ ∃ acc O2 G', Sta G0 H0 G' H' (wipe σ (own.map (·.2))) (wipeK ss (own.map (·.2))) ((Dl, .okl acc) :: O2) ∧ Ex G1 G' ∧ Inv i acc O2, ⟨n, by simp, Nat.zero_le _, [], O1, G1, start, Ex.refl _, h0⟩, ?_⟩
  rintro i m H' ⟨rfl, hi, acc, O2, G', S', e', iv⟩
  obtain ⟨Sh, le⟩ := S'.hide
  by_cases hlt : i < n
  · refine .inr ⟨wk.go i _ _ G' H' _ _ O2 Sh e' (hn _ _ _ iv) hlt, fun H2 => ∃ acc O3 G2, Sta G0 H0 G2 H2 (wipe σ (own.map (·.2))) (wipeK ss (own.map (·.2))) ((Dl, .okl acc) :: O3) ∧ Ex G1 G2 ∧ Inv (i + 1) acc O3, fun H2 ⟨acc, O3, G2, S2, e2, iv2⟩ => ⟨n - (i + 1), by omega, rfl, by omega, acc, O3, G2, S2, e2, iv2⟩, fun x H2 y => ?_⟩
    obtain ⟨G2, S2, e2, dx⟩ := wk.yld i _ _ G' H' _ _ O2 x H2 Sh e' (hn _ _ _ iv) hlt y
    refine hb i acc O2 hlt iv _ _ G2 H2 _ x S2 dx _ fun G3 H3 σ3 ss3 O3 S3 e3 h3 l3 body => ?_
    refine ⟨wipe_again hix h3 l3, body _ _ G3 H3 σ3 S3 _ fun G4 H4 b O4 S4 e4 hb => ?_⟩
    have back : ∀ {G5 H5 : Hp} {O5 : Store}, Sta G0 (aside H0 H' Dl) G5 H5 σ3 ss3 O5 → Ex G4 G5 → Sta G0 H0 G5 H5 (wipe σ (own.map (·.2))) (wipeK ss (own.map (·.2))) ((Dl, .okl acc) :: O5) := fun {G5 H5 O5} S5 e5 =>
      (S'.unhide S5 (((e2.trans e3).trans e4).trans e5)).slots (slots_ex ((((e'.trans e2).trans e3).trans e4).trans e5) (slots_wipe S1.sl _))
    cases b with
    | true =>
      rw [if_pos rfl] at hb ⊢
      intro s Hb C cl fp
      refine hb s Hb C cl fp _ _ G4 H4 σ3 S4 Lt.no _ fun G5 H5 v k O5 S5 e5 r5 iv5 => ?_
      have S6 := back S5 e5
      obtain ⟨⟨vs, hv, rv⟩, _, _⟩ := S6.ob _ List.mem_cons_self
      have ev : vs.length = acc.length := paired_len rv
      have := hl i acc O2 iv
      refine ⟨vs, hv, by rw [ev, sizeLine_eq]; omega, acc ++ [k], O5, G5, ?_, (((e'.trans e2).trans e3).trans e4).trans e5, iv5⟩
      exact S6.put (i := 0) rfl (b := .okl (acc ++ [k])) ⟨vs ++ [v], upd_same, paired_app rv (.cons r5 .nil)⟩
    | false =>
      rw [if_neg Bool.false_ne_true] at hb ⊢
      exact ⟨acc, O4, G4, back S4 (Ex.refl _), ((e'.trans e2).trans e3).trans e4, hb⟩
  · have e : i = n := by omega
    subst e
    refine .inl ⟨wk.stop _ _ G' H' _ _ O2 Sh e' (hn _ _ _ iv), ?_⟩
    exact q _ _ _ _ _ (S'.slots (slots_ex e' S1.sl)) (e1.trans e') iv
theorem kinds_all {G : Hp} : ∀ {vs : List V} {ds : List PyData}, Paired (KdAt G) vs (ds.map .dat) → DPs G vs ds
  | _, [], h => by cases h; exact .nil
  | _, d :: ds, h => by
    cases h with
    | cons r t => exact .cons r (kinds_all t)
/-- what a comprehension makes -/
def LJ (X : Cx) (R : Addr → Prop) (elt tg iter : Expr) (ifs : List Expr) (scope : Scope) (ss : List Kd) (O : Store) (Φ : Addr → Store → Prop) : Prop :=
  ∃ (own : List (Str × Nat)) (g : TG) (tt : TT) (wi : TI), BlkOk X.N X.env.scope scope own ∧ PI X tg iter wi ∧ (∀ s H C cl fp, PG (Bk X scope s H C cl fp) tg g) ∧
    (∀ (s : Shared) (H : Hp) (C : Addr) (cl : List (Str × Addr)) (fp : List Addr), PTs (Bk X scope s H C cl fp) ifs tt) ∧
    ∀ G0 H0 G H σ, Sta G0 H0 G H σ ss O → Lt X R H0 → ∀ Q : VK, (∀ G' H' p O', Sta G0 H0 G' H' σ ss O' → Ex G G' → Φ p O' → Q (.ref p) H') → tLc wi g tt (bE X scope elt) (own.map (·.2)) σ H Q
theorem LJ.imp' {Φ Ψ : Addr → Store → Prop} (h : LJ X R elt tg iter ifs scope ss O Φ) (i : ∀ G0 H0 G H σ p O', Sta G0 H0 G H σ ss O' → Φ p O' → ∃ O'', Sta G0 H0 G H σ ss O'' ∧ Ψ p O'') : LJ X R elt tg iter ifs scope ss O Ψ := by
  obtain ⟨own, g, tt, wi, a, b, c, d, f⟩ := h
  refine ⟨own, g, tt, wi, a, b, c, d, fun G0 H0 G H σ S L Q q => f G0 H0 G H σ S L Q fun G' H' p O' S' e' p' => ?_⟩
  obtain ⟨O'', S'', p''⟩ := i _ _ _ _ _ _ _ S' p'
  exact q G' H' p O'' S'' e' p''
theorem lc_any {tt : TT} (Inv : Nat → List Kd → Store → Prop) (ok : BlkOk X.N X.env.scope scope own) (hi : IJ X R tg iter ss O n item need O1) (hg : ∀ s H C cl fp, PG (Bk X scope s H C cl fp) tg g) (hix : ∀ i ∈ ix, i ∈ own.map (·.2))
    (ht : ∀ (s : Shared) (H : Hp) (C : Addr) (cl : List (Str × Addr)) (fp : List Addr), PTs (Bk X scope s H C cl fp) ifs tt) (h0 : Inv 0 [] O1) (hn : ∀ i acc O, Inv i acc O → need O) (hl : ∀ i acc O, Inv i acc O → acc.length ≤ i) (hm : n ≤ 16777216)
    (hb : ∀ i acc O2, i < n → Inv i acc O2 → GJ g ix (item i) (wipeK ss (own.map (·.2))) O2 fun ss2 O3 => ∀ G0 H0 G H σ2, Sta G0 H0 G H σ2 ss2 O3 → ∀ Q : Bool → Hp → Prop,
      (∀ G' H' b O4, Sta G0 H0 G' H' σ2 ss2 O4 → Ex G G' → (if b = true then BE X scope elt ss2 O4 fun k O5 => Inv (i + 1) (acc ++ [k]) O5 else Inv (i + 1) acc O4) → Q b H') → tt σ2 H Q) :
    LJ X R elt tg iter ifs scope ss O fun p O' => ∃ acc O2, O' = (p, .okl acc) :: O2 ∧ Inv n acc O2 := by
  obtain ⟨wi, hwi, w⟩ := hi
  refine ⟨own, g, tt, wi, ok, hwi, hg, ht, fun G0 H0 G H σ S L Q q => ?_⟩
  exact lc_read Inv hix hn hl hm hb (w G0 H0 G H σ S L) h0 Q fun G' H' p acc O2 S' e' iv => q G' H' p _ S' e' ⟨acc, O2, rfl, iv⟩
/-- as a value -/
theorem ej_lcv {Φ : Addr → Store → Prop} (h : LJ X R elt tg iter ifs scope ss O Φ) (hN : X.N.Nodup) (hc : X.calm = true) (hs : ∀ x, foldedSetIterable iter X.env x = pure x := by intro _; rfl) :
    EJ X R (.ListComp elt [⟨tg, iter, ifs, 0⟩] scope pos) ss O fun k O' => ∃ p, k = .val (.ref p) ∧ Φ p O' := fun G0 H0 G H σ S L Q q => by
  obtain ⟨own, g, tt, wi, a, b, c, d, f⟩ := h
  exact wE_of (pe_lc (te := bE X scope elt) hc hN b a c d (fun s H C cl fp => ⟨fun pins s0 σ H Q I h => (h s _ C cl fp).run pins s0 I⟩) hs) (f G0 H0 G H σ S L Q fun G' H' p O' S' e' p' => q.v S' e' ⟨p, rfl, p'⟩)
/-- name = [..] -/
theorem s1_lc (i : Nat) {x : Str} {px spos : Pos} {Φ : Addr → Store → Prop} (h : LJ X R elt tg iter ifs scope ss O Φ) (hq : ∀ p O', Φ p O' → D.nx (ss.set i (.val (.ref p))) O') (hN : X.N.Nodup) (hc : X.calm = true) (hi : X.N[i]? = some x) (hx : X.env.scope.names.lookup x = some .local)
    (hsw : swapsWith (.ListComp elt [⟨tg, iter, ifs, 0⟩] scope pos) (some (.Name x px)) spos.line X.env = pure true) (hs : ∀ x, foldedSetIterable iter X.env x = pure x := by intro _; rfl) : S1 X R (.Assign [.Name x px] (.ListComp elt [⟨tg, iter, ifs, 0⟩] scope pos) spos) ss O D := fun G0 H0 G H σ S L E s => by
  obtain ⟨own, g, tt, wi, a, b, c, d, f⟩ := h
  exact wS_of (ps_setLc (i := i) (te := bE X scope elt) hc hN hi hx hsw b a c d (fun s H C cl fp => ⟨fun pins s0 σ H Q I h => (h s _ C cl fp).run pins s0 I⟩) hs) (f G0 H0 G H σ S L _ fun G' H' p O' S' e' p' => s.nx G' H' _ _ O' (S'.set i (k := .val (.ref p)) rfl) e' (hq p O' p'))
/-- the list, of data -/
theorem LJ.ol {Inv : List PyData → Store → Prop} (h : LJ X R elt tg iter ifs scope ss O fun p O' => ∃ acc O2, O' = (p, .okl acc) :: O2 ∧ ∃ ds : List PyData, acc = ds.map .dat ∧ Inv ds O2) : LJ X R elt tg iter ifs scope ss O fun p O' => ∃ ds O2, O' = (p, .ol ds) :: O2 ∧ Inv ds O2 :=
  h.imp' fun G0 H0 G H σ p O' S ⟨acc, O2, e, ds, e2, iv⟩ => by
    subst e e2
    exact ⟨_, S.cast (b' := .ol ds) fun ⟨vs, a, r⟩ => ⟨vs, a, kinds_all r⟩, ds, O2, rfl, iv⟩
/-- [elt for tg in iter]: a plain map, the store stays -/
theorem lj_map (f : Nat → PyData) (ok : BlkOk X.N X.env.scope scope own) (hi : IJ X R tg iter ss O n item any O1) (hg : ∀ s H C cl fp, PG (Bk X scope s H C cl fp) tg g) (hix : ∀ i ∈ ix, i ∈ own.map (·.2)) (hm : n ≤ 16777216)
    (hb : ∀ i, i < n → GJ g ix (item i) (wipeK ss (own.map (·.2))) O1 fun ss2 O3 => BE X scope elt ss2 O3 fun k O5 => k = .dat (f i) ∧ O5 = O1) :
    LJ X R elt tg iter [] scope ss O fun p O' => O' = (p, .ol ((List.range n).map f)) :: O1 :=
  (LJ.ol (Inv := fun ds O => ds = (List.range n).map f ∧ O = O1) ((lc_any (tt := tYes) (fun i acc O => acc = ((List.range i).map f).map .dat ∧ O = O1) ok hi hg hix (fun _ _ _ _ _ => pts_nil) ⟨rfl, rfl⟩ (fun _ _ _ _ => trivial) (fun i acc O ⟨e, _⟩ => by rw [e]; simp) hm (fun i acc O2 hlt ⟨e1, e2⟩ => by
    subst e1 e2
    intro G0 H0 G H σ v S r Q q
    refine hb i hlt G0 H0 G H σ v S r Q fun G' H' σ' ss' O' S' e' h1 h2 h3 => q G' H' σ' ss' O' S' e' h1 h2 fun G0 H0 G H σ2 S2 Q2 q2 => q2 G H true O' S2 (Ex.refl G) ?_
    rw [if_pos rfl]
    intro s Hb C cl fp
    refine (h3 s Hb C cl fp).imp ?_
    rintro k O ⟨rfl, rfl⟩
    refine ⟨?_, rfl⟩
    rw [List.range_succ, List.map_append, List.map_append]
    rfl)).imp' fun G0 H0 G H σ p O' S ⟨acc, O2, e, e1, e2⟩ => ⟨O', S, acc, O2, e, _, e1, rfl, e2⟩)).imp' fun G0 H0 G H σ p O' S ⟨ds, O2, e, e1, e2⟩ => ⟨O', S, by rw [e, e1, e2]⟩
/-- .. with an if -/
theorem lj_mapIf (t : Nat → Bool) (f : Nat → PyData) (ok : BlkOk X.N X.env.scope scope own) (hi : IJ X R tg iter ss O n item any O1) (hg : ∀ s H C cl fp, PG (Bk X scope s H C cl fp) tg g) (hix : ∀ i ∈ ix, i ∈ own.map (·.2)) (hm : n ≤ 16777216)
    (hb : ∀ i, i < n → GJ g ix (item i) (wipeK ss (own.map (·.2))) O1 fun ss2 O3 => (BT X scope c ss2 O3 fun b O4 => b = t i ∧ O4 = O1) ∧ (t i = true → BE X scope elt ss2 O1 fun k O5 => k = .dat (f i) ∧ O5 = O1)) :
    LJ X R elt tg iter [c] scope ss O fun p O' => O' = (p, .ol (((List.range n).filter t).map f)) :: O1 :=
  (LJ.ol (Inv := fun ds O => ds = ((List.range n).filter t).map f ∧ O = O1) ((lc_any (tt := bT X scope c) (fun i acc O => acc = (((List.range i).filter t).map f).map .dat ∧ O = O1) ok hi hg hix (fun s H C cl fp => pts_one ⟨fun pins s0 σ H Q I h => (h s _ C cl fp).run pins s0 I⟩) ⟨rfl, rfl⟩ (fun _ _ _ _ => trivial) (fun i acc O ⟨e, _⟩ => by
      rw [e, List.length_map, List.length_map]
      have := List.length_filter_le t (List.range i)
      rwa [List.length_range] at this) hm (fun i acc O2 hlt ⟨e1, e2⟩ => by
    subst e1 e2
    intro G0 H0 G H σ v S r Q q
    refine hb i hlt G0 H0 G H σ v S r Q fun G' H' σ' ss' O' S' e' h1 h2 h3 => q G' H' σ' ss' O' S' e' h1 h2 fun G0 H0 G H σ2 S2 Q2 q2 => ?_
    obtain ⟨ht, he⟩ := h3
    intro s Hb C cl fp
    refine ht s Hb C cl fp G0 H0 G H σ2 S2 Lt.no Q2 fun G1 H1 b O3 S1 e1 ⟨x1, x2⟩ => q2 G1 H1 b O3 S1 e1 ?_
    subst x1 x2
    cases hti : t i with
    | true =>
      rw [if_pos rfl]
      intro s Hb C cl fp
      refine (he hti s Hb C cl fp).imp ?_
      rintro k O ⟨rfl, rfl⟩
      refine ⟨?_, rfl⟩
      rw [List.range_succ, List.filter_append, List.map_append, List.map_append, List.filter_cons, if_pos hti]
      rfl
    | false =>
      rw [if_neg Bool.false_ne_true]
      refine ⟨?_, rfl⟩
      rw [List.range_succ, List.filter_append, List.map_append, List.filter_cons, if_neg (by rw [hti]; exact Bool.false_ne_true)]
      simp)).imp' fun G0 H0 G H σ p O' S ⟨acc, O2, e, e1, e2⟩ => ⟨O', S, acc, O2, e, _, e1, rfl, e2⟩)).imp' fun G0 H0 G H σ p O' S ⟨ds, O2, e, e1, e2⟩ => ⟨O', S, by rw [e, e1, e2]⟩
/-- as a new list -/
theorem en_lj {b : Ob} (h : LJ X R elt tg iter ifs scope ss O fun p O' => O' = (p, b) :: O1) (hN : X.N.Nodup) (hc : X.calm = true) (hs : ∀ x, foldedSetIterable iter X.env x = pure x := by intro _; rfl) : EN X R (.ListComp elt [⟨tg, iter, ifs, 0⟩] scope pos) ss O b O1 :=
  EJ.imp (ej_lcv h hN hc hs) fun k O ⟨p, e1, e2⟩ => ⟨p, e1, e2⟩
end
end Dl
end
section
/-! Sets of texts that can be walked: membership, the table's rising places, its ledger. -/
namespace Dl
open PySem PySem.Spec PyProof.Rows L2

def txKey (e : Int × Value) : Str := match e.2 with | .str x _ => x | _ => Str.empty
def TxE (w : World) (e : Int × Value) : Prop := ∃ k u, e.2 = Value.str k u ∧ e.1 = hashStr w k
/-- a text set at a: members S, their number n -/
structure TxSet (w : World) (h : Heap) (a : Addr) (S : Str → Bool) (n : Nat) : Prop where
  ex : ∃ o es ep t, h.get? a = some o ∧ o.ExactSet ∧ o.data = .set es ep t ∧ (∀ e ∈ es.toList, TxE w e) ∧ (es.toList.map txKey).Nodup ∧ (∀ k, S k = true ↔ k ∈ es.toList.map txKey) ∧
    es.size < scanBound ∧ t.fits es.size = true ∧ es.size = n ∧ Ris t.place.toList ∧ (w.params.followText "set-order" = true ∨ t.led = true)
section
variable {P : Program} {w : World} {h h' : Heap} {a : Addr} {S : Str → Bool} {n : Nat}
theorem TxSet.at (Z : TxSet w h a S n) (k : ∀ o, h.get? a = some o → h'.get? a = some o) : TxSet w h' a S n := by
  obtain ⟨o, es, ep, t, ho, z⟩ := Z.ex
  exact ⟨⟨o, es, ep, t, k o ho, z⟩⟩
theorem TxSet.congr {S' : Str → Bool} {n' : Nat} (Z : TxSet w h a S n) (e : ∀ k, S' k = S k) (e' : n' = n) : TxSet w h a S' n' := by
  rw [funext e, e']; exact Z
theorem tx_kind (k : Str) (u : Tok) : (PySem.strKind P w).is k (.str k u) = true := strKind_is P w k u
theorem tx_elems {l : List (Int × Value)} (g : ∀ e ∈ l, TxE w e) : ElemsOf (PySem.strKind P w) l := fun e he => by
  obtain ⟨k, u, h1, h2⟩ := g e he
  exact ⟨⟨k, by rw [h1]; exact tx_kind k u, h2⟩, by rw [h1] <;> rfl⟩
theorem tx_is {e : Int × Value} (g : TxE w e) (k : Str) : (PySem.strKind P w).is k e.2 = true ↔ txKey e = k := by
  obtain ⟨k0, u, h1, _⟩ := g
  unfold txKey
  rw [h1]
  show Value.isStrOf k (.str k0 u) = true ↔ k0 = k
  simp [Value.isStrOf]
theorem tx_mem {l : List (Int × Value)} (g : ∀ e ∈ l, TxE w e) (k : Str) : k ∈ l.map txKey ↔ ∃ e ∈ l, (PySem.strKind P w).is k e.2 = true := by
  rw [List.mem_map]
  exact ⟨fun ⟨e, he, q⟩ => ⟨e, he, (tx_is (g e he) k).2 q⟩, fun ⟨e, he, q⟩ => ⟨e, he, (tx_is (g e he) k).1 q⟩⟩
theorem TxSet.setOf (Z : TxSet w h a S n) : h.SetOf (PySem.strKind P w) a S n := by
  obtain ⟨o, es, ep, t, ho, hx, hd, g, nd, hm, hb, hf, hn, _⟩ := Z.ex
  exact ⟨o, es, ep, t, ho, hx, hd, tx_elems g, fun k => (hm k).trans (tx_mem g k), hb, hf, hn⟩
theorem TxSet.fresh (led : Bool) (hl : w.params.followText "set-order" = true ∨ led = true) (ho : h.get? a = some { cls := .type "set", dict := none, data := .set #[] 0 (.fresh 0 0 led) }) : TxSet w h a (fun _ => false) 0 :=
  ⟨_, #[], 0, _, ho, ⟨rfl, rfl, rfl⟩, rfl, fun e he => by simp at he, by simp, fun k => by simp, by decide, by rfl, rfl, List.Pairwise.nil, hl⟩
end
section
variable {P : Program} {w : World} {A : Around} {E : Value → Shared → Prop} {s : Shared} {a : Addr} {S : Str → Bool} {n : Nat}
theorem tx_put {h : Heap} {o : Obj} {es es' : Array (Int × Value)} {ep : Nat} {t t' : SetTable} (ho : h.get? a = some o) (hd : o.data = .set es ep t) : (h.update a (Obj.putSet es' t')).get? a = some { o with data := .set es' (ep + 1) t' } := by
  have q := Heap.get?_update_self (Obj.putSet es' t') ho (by rw [putSet_of es' t' hd]; rfl)
  rwa [putSet_of es' t' hd] at q
/-- the end of an add: stored, laid anew where it is too full -/
theorem tx_tail {g : Bool → Sem Unit} (hg : ∀ (b : Bool) (s₁ : Shared) (Q' : Unit → Shared → Prop), Q' () s₁ → wpAny (model P w) A (g b) Q' E s₁) {o : Obj} {es : Array (Int × Value)} {ep : Nat} {t : SetTable} (ho : s.heap.get? a = some o) (hex : o.ExactSet) (hd : o.data = .set es ep t)
    {e1 : Array (Int × Value)} {t2 : SetTable} {S' : Str → Bool} (g1 : ∀ e ∈ e1.toList, TxE w e) (nd1 : (e1.toList.map txKey).Nodup) (m1 : ∀ k, S' k = true ↔ k ∈ e1.toList.map txKey) (hb1 : e1.size < scanBound) (hf2 : t2.fits e1.size = true) (hr : Ris t2.place.toList)
    (hl : w.params.followText "set-order" = true ∨ t2.led = true) {dum : Bool} {Rr : Option Bool → Shared → Prop} (hR : ∀ h', Heap.SameBut a s.heap h' → TxSet w h' a S' e1.size → Rr (some true) { s with heap := h' }) :
    wpAny (model P w) A (do
      storeSet a e1 t2
      if (!dum && t2.tooFull) = true then do
        g (relayAll t2 e1 (SetTable.grown e1.size)).2.2
        storeSet a (relayAll t2 e1 (SetTable.grown e1.size)).1 (relayAll t2 e1 (SetTable.grown e1.size)).2.1
        pure (some true)
      else pure (some true)) Rr E s := by
  refine wpAny_bind (wpAny_storeSet_of ho hd ?_ (fits_of_scanBound hb1))
  have o1 := tx_put (es' := e1) (t' := t2) ho hd
  have b1 := Heap.SameBut.update s.heap a (Obj.putSet e1 t2)
  split
  · have pm := relayAll_perm t2 e1 (SetTable.grown e1.size)
    have f3 := relayAll_fits t2 e1 (SetTable.grown e1.size)
    have r3 := relayAll_ris t2 e1 (SetTable.grown e1.size)
    have l3 := relayAll_led t2 e1 (SetTable.grown e1.size)
    generalize relayAll t2 e1 (SetTable.grown e1.size) = Y at pm f3 r3 l3 ⊢
    obtain ⟨e2, t3, gv⟩ := Y
    dsimp only at pm f3 r3 l3 ⊢
    have sz : e2.size = e1.size := by rw [← Array.length_toList, pm.length_eq, Array.length_toList]
    have b2 : e2.size < scanBound := by rw [sz]; exact hb1
    refine wpAny_bind (hg _ _ _ ?_)
    refine wpAny_bind (wpAny_storeSet_of o1 rfl ?_ (fits_of_scanBound b2))
    refine wpAny_pure (hR _ (b1.trans (Heap.SameBut.update _ a _)) ⟨?_⟩)
    exact ⟨_, e2, _, t3, tx_put (es' := e2) (t' := t3) o1 rfl, hex, rfl, fun e he => g1 e (pm.mem_iff.mp he), (pm.map txKey).nodup_iff.mpr nd1, fun k => (m1 k).trans (pm.map txKey).mem_iff.symm, b2, f3, sz, r3, hl.imp id fun z => by rw [l3]; exact z⟩
  · exact wpAny_pure (hR _ b1 ⟨_, e1, _, t2, o1, hex, rfl, g1, nd1, m1, hb1, hf2, rfl, hr, hl⟩)
theorem tx_addH {k : Str} {u : Tok} {Q : Bool → Shared → Prop} (Z : TxSet w s.heap a S n) (room : n + 1 < scanBound)
    (hQ : ∀ h', Heap.SameBut a s.heap h' → TxSet w h' a (fun j => S j || decide (j = k)) (if S k = true then n else n + 1) → Q (!S k) { s with heap := h' }) : wpAny (model P w) A (setAddHashed a (.str k u) ((PySem.strKind P w).hash k)) Q E s := by
  obtain ⟨o, es, ep, t, ho, hex, hd, g, nd, hm, hb, hf, hn, hr, hl⟩ := Z.ex
  have key : (PySem.strKind P w).is k (.str k u) = true := tx_kind k u
  have sc : (Value.str k u).scannable = true := rfl
  have el : ElemsOf (PySem.strKind P w) es.toList := tx_elems g
  unfold setAddHashed setAddHashedIn
  refine wpAny_holding (wpAny_bind (wpAny_setState_of ho hd hf ?_))
  dsimp only
  rw [byScan_of sc hb el]
  simp only [↓reduceIte]
  unfold setAddByScan
  refine wpAny_bind ?_
  refine wpAny_bind (wpAny_rule ?_)
  refine wpAny_bind (wpAny_setScan_of key ho hd hf el ?_)
  cases fi : List.findIdx? (fun e => (PySem.strKind P w).is k e.2) es.toList with
  | some j =>
    dsimp only
    obtain ⟨hj, pj, _⟩ := List.findIdx?_eq_some_iff_getElem.mp fi
    have Sk : S k = true := (hm k).2 ((tx_mem (P := P) g k).2 ⟨es.toList[j], List.getElem_mem hj, pj⟩)
    refine wpAny_pure (wpAny_pure ?_)
    have q := hQ s.heap (Heap.SameBut.refl a s.heap) ⟨o, es, ep, t, ho, hex, hd, g, nd, fun i => by
      rw [Bool.or_eq_true, decide_eq_true_eq, ← hm i]
      exact ⟨fun z => z.elim id (fun e => e ▸ Sk), .inl⟩, hb, hf, by rw [if_pos Sk]; exact hn, hr, hl⟩
    rwa [Sk] at q
  | none =>
    dsimp only
    have nk : k ∉ es.toList.map txKey := fun z => by
      obtain ⟨e, he, q⟩ := (tx_mem (P := P) g k).1 z
      have c := List.findIdx?_eq_none_iff.mp fi e he
      rw [q] at c; cases c
    have Sk : S k = false := by
      cases q : S k with
      | false => rfl
      | true => exact absurd ((hm k).1 q) nk
    have gw : ∀ (b : Bool) {s₁ : Shared} {Q' : Unit → Shared → Prop}, Q' () s₁ → wpAny (model P w) A (match b with | true => rule "set.scan.the-table-gave-way" | false => pure ()) Q' E s₁ :=
      fun b s₁ Q' q => by cases b <;> first | exact wpAny_pure q | exact wpAny_rule q
    have pm := layNew_perm t es ((PySem.strKind P w).hash k) (.str k u)
    have f1 := layNew_fits t es ((PySem.strKind P w).hash k) (.str k u)
    have r1 := layNew_ris t es ((PySem.strKind P w).hash k) (.str k u) hr
    have l1 := layNew_led t es ((PySem.strKind P w).hash k) (.str k u)
    generalize layNew t es ((PySem.strKind P w).hash k) (.str k u) = Y at pm f1 r1 l1 ⊢
    obtain ⟨e1, t1, dum, gave⟩ := Y
    dsimp only at pm f1 r1 l1 ⊢
    rw [Array.toList_push] at pm
    have pc : e1.toList.Perm (((PySem.strKind P w).hash k, Value.str k u) :: es.toList) := pm.trans (List.perm_append_singleton _ _)
    have pk : (e1.toList.map txKey).Perm (k :: es.toList.map txKey) := pc.map txKey
    have g1 : ∀ e ∈ e1.toList, TxE w e := fun e he => by
      rcases List.mem_cons.mp (pc.mem_iff.mp he) with z | z
      · rw [z]; exact ⟨k, u, rfl, rfl⟩
      · exact g e z
    have nd1 : (e1.toList.map txKey).Nodup := pk.nodup_iff.mpr (List.nodup_cons.mpr ⟨nk, nd⟩)
    have m1 : ∀ i, (S i || decide (i = k)) = true ↔ i ∈ e1.toList.map txKey := fun i => by
      rw [Bool.or_eq_true, decide_eq_true_eq, hm i, pk.mem_iff, List.mem_cons]
      exact Or.comm
    have sz : e1.size = n + 1 := by rw [← Array.length_toList, pc.length_eq, List.length_cons, Array.length_toList, hn]
    have b1 : e1.size < scanBound := by rw [sz]; exact room
    have led : w.params.followText "set-order" = true ∨ t1.led = true := hl.imp id fun z => by rw [l1]; exact z
    have fin : ∀ h', Heap.SameBut a s.heap h' → TxSet w h' a (fun j => S j || decide (j = k)) e1.size → Q true { s with heap := h' } := fun h' sb r => by
      have q := hQ h' sb
      rw [Sk] at q
      rw [sz] at r
      exact q r
    refine wpAny_bind (gw _ ?_)
    split
    · refine wpAny_bind ?_
      rw [hashByValue_scannable 8 sc]
      refine wpAny_pure ?_
      refine tx_tail ?_ ho hex hd g1 nd1 m1 b1 ?_ ?_ ?_ ?_
      · intro b s₁ Q' q; cases b <;> first | exact wpAny_pure q | exact wpAny_rule q
      · first | (split <;> first | exact f1 | exact SetTable.fits_plain_off f1) | exact f1
      · first | (split <;> exact r1) | exact r1
      · first | (split <;> exact led) | exact led
      · intro h' sb r; dsimp only; exact wpAny_pure (fin h' sb r)
    · refine wpAny_bind (wpAny_pure ?_)
      simp only [↓reduceIte]
      refine tx_tail ?_ ho hex hd g1 nd1 m1 b1 f1 r1 led ?_
      · intro b s₁ Q' q; cases b <;> first | exact wpAny_pure q | exact wpAny_rule q
      · intro h' sb r; dsimp only; exact wpAny_pure (fin h' sb r)
/-- x.add(text) -/
theorem tx_add {k : Str} {u : Tok} {Q : Value → Shared → Prop} (Z : TxSet w s.heap a S n) (room : n + 1 < scanBound)
    (hQ : ∀ h' tk, Heap.SameBut a s.heap h' → TxSet w h' a (fun j => S j || decide (j = k)) (if S k = true then n else n + 1) → Q .none { s with heap := h', toks := tk }) : wpAny (model P w) A (call (.builtin "set.add") [.ref a, .str k u]) Q E s := by
  have hS : s.heap.SetOf (PySem.strKind P w) a S n := Z.setOf
  refine wpAny_call_entry F.slot_set_add hS.typeIs F.entry_set_add ?_ (F.args_set_add_2 _ _)
  unfold Builtin.«set.add» Builtin.Frozenset.oneOther
  simp only [List.isEmpty_nil, bind_assoc]
  unfold Builtin.Frozenset.addrOf setAdd
  refine wpAny_bind (wpAny_pure ?_)
  try dsimp only
  refine wpAny_bind (wpAny_pure ?_)
  try dsimp only
  refine wpAny_bind ?_
  refine wpAny_holding ?_
  refine wpAny_bind ((PySem.strKind P w).pyHash (tx_kind k u) ?_)
  refine tx_addH (s := { s with toks := s.toks + 1 }) Z room fun h' sb r => ?_
  show wpAny _ _ (ret Value.none) _ _ _
  exact wpAny_pure ⟨_, rfl, hQ h' _ sb r⟩
end
end Dl
end
section
namespace Dl
open PySem PySem.Spec PyProof.Rows L2

theorem nd_le {α : Type} [DecidableEq α] : ∀ {l u : List α}, l.Nodup → (∀ x ∈ l, x ∈ u) → l.length ≤ u.length
  | [], _, _, _ => Nat.zero_le _
  | x :: l, u, h, s => by
    have hx := s x List.mem_cons_self
    have h1 := List.nodup_cons.mp h
    have h2 : l.length ≤ (u.erase x).length := nd_le h1.2 fun y hy => by
      have : y ≠ x := fun e => h1.1 (e ▸ hy)
      exact (List.mem_erase_of_ne this).mpr (s y (List.mem_cons_of_mem _ hy))
    rw [List.length_erase_of_mem hx] at h2
    have : 0 < u.length := List.length_pos_of_mem hx
    rw [List.length_cons]
    omega
theorem tx_few {w : World} {h : Heap} {a : Addr} {S : Str → Bool} {n : Nat} {U : List Str} (Z : TxSet w h a S n) (hU : ∀ k, S k = true → k ∈ U) : n ≤ U.length := by
  obtain ⟨o, es, ep, t, _, _, _, _, nd, hm, _, _, e, _⟩ := Z.ex
  rw [← e, ← Array.length_toList, ← List.length_map (f := txKey)]
  exact nd_le nd fun k hk => hU k ((hm k).mpr hk)
section
variable {P : Program} {w : World} {A : Around} {R : Result → Shared → Prop} {I : Addr} {fp wr : List Addr} {G : Array GenState → Array GenState → Prop} {n : Nat} {Pv : Nat → Value → Prop} {St : Nat → Shared → Prop}
/-- the texts of a walk go into the set at a -/
theorem tx_update (W : WalksS P w A.in1 I fp wr G n Pv St) (a : Addr) (haf : a ∉ fp) (xs : List Str) (hn : xs.length = n) (U : List Str) (hU : ∀ x ∈ xs, x ∈ U) (hb : U.length + 1 < scanBound) (hv : ∀ i v, Pv i v → ∃ x u, xs[i]? = some x ∧ v = .str x u) :
    ∀ (k i : Nat) (s : Shared), n - i = k → i ≤ n → St i s → (∃ c, c ≤ i ∧ TxSet w s.heap a (fun j => decide (j ∈ xs.take i)) c) →
      (∀ s' c, Moved (a :: wr) G s s' → c ≤ n → TxSet w s'.heap a (fun j => decide (j ∈ xs)) c → R (.ok (.ret .none)) s') → codeAny (model P w) A (.builtin "set.update.loop" ⟨[.ref a, .ref I], []⟩) R s := by
  have haw : a ∉ wr := fun h => haf (W.sub _ h)
  have sub : ∀ b ∈ wr, b ∈ a :: wr := fun b hb => List.mem_cons_of_mem _ hb
  intro k
  induction k with
  | zero =>
    intro i s hk hi st ⟨c, hc, hS⟩ hR
    obtain rfl : i = n := by omega
    refine codeAny_builtin F.entry_set_update_loop ?_
    rw [Around.under_plainId F.plain_set_update_loop _]
    show wpAny _ A.in1 (pyNext (.ref I) >>= _) _ _ s
    refine wpAny_bind (W.done s _ _ st fun s' hm => ?_)
    show wpAny _ A.in1 (ret Value.none) _ _ s'
    refine wpAny_pure (hR s' c (hm.mono sub) hc ?_)
    have e : xs.take i = xs := List.take_of_length_le (by omega)
    rw [e] at hS
    exact hS.at fun o ho => hm.heap a _ haw ho
  | succ k ih =>
    intro i s hk hi st ⟨c, hc, hS⟩ hR
    have lt : i < n := by omega
    refine codeAny_builtin F.entry_set_update_loop ?_
    rw [Around.under_plainId F.plain_set_update_loop _]
    show wpAny _ A.in1 (pyNext (.ref I) >>= _) _ _ s
    refine wpAny_bind (W.item i s _ _ lt st fun v s' hP st' hm => ?_)
    obtain ⟨x, u, hx, rfl⟩ := hv i v hP
    have hS' := hS.at (h' := s'.heap) fun o ho => hm.heap a _ haw ho
    show wpAny _ A.in1 (holding [Value.str x u] (setAdd a (.str x u)) >>= _) _ _ s'
    refine wpAny_bind (wpAny_holding ?_)
    unfold setAdd
    refine wpAny_holding ?_
    refine wpAny_bind ((PySem.strKind P w).pyHash (k := x) (tx_kind x u) ?_)
    have hcU : c ≤ U.length := tx_few hS' (fun k hk => hU k (List.mem_of_mem_take (by simpa using hk)))
    refine tx_addH (s := { s' with toks := s'.toks + 1 }) hS' (by omega) fun h' sb z => ?_
    have e : xs.take (i + 1) = xs.take i ++ [x] := by rw [List.take_add_one, hx]; rfl
    have z2 : ∃ c', c' ≤ i + 1 ∧ TxSet w h' a (fun j => decide (j ∈ xs.take (i + 1))) c' := by
      refine ⟨_, ?_, z.congr (fun j => ?_) rfl⟩
      · split <;> omega
      · rw [e]; simp
    refine wpAny_pure ⟨plainId_quiet F.plain_set_update_loop _, ih (i + 1) _ (by omega) lt (W.frame _ s' _ _ st' (Nat.le_succ _) fun b hb o e => ?_) z2 fun s'' c' m2 hc' S2 => ?_⟩
    · rw [sb.2 b (fun h : b = a => haf (by rw [← h]; exact hb))]; exact e
    · refine hR s'' c' (Moved.trans W.gtrans ((hm.mono sub).then_heap (Nat.le_succ _) fun b o hb e => ?_) m2) hc' S2
      rw [sb.2 b (fun h : b = a => hb (by rw [h]; exact List.mem_cons_self))]; exact e
end
section
variable {P : Program} {w : World} {A : Around} {E : Value → Shared → Prop} {s : Shared}
abbrev newSetO (w : World) : Obj := { cls := .type "set", dict := none, data := .set #[] 0 (.fresh 0 0 (!w.params.followText "set-order")) }
theorem tx_fresh {h : Heap} {a : Addr} (ho : h.get? a = some (newSetO w)) : TxSet w h a (fun _ => false) 0 := TxSet.fresh _ (by cases w.params.followText "set-order" <;> simp) ho
theorem tx_fresh' {xs : List Str} {h : Heap} {a : Addr} (ho : h.get? a = some (newSetO w)) : TxSet w h a (fun j => decide (j ∈ xs.take 0)) 0 := (tx_fresh ho).congr (fun j => by simp) rfl
theorem strs_in {l : List Value} {xs : List Str} (h : StrsAre l xs) : ∀ {i : Nat} {v : Value}, l[i]? = some v → ∃ x u, xs[i]? = some x ∧ v = .str x u := by
  induction h with
  | nil => intro i v e; simp at e
  | cons x t _ ih =>
    intro i v e
    cases i with
    | zero => simp at e; exact ⟨_, _, rfl, e.symm⟩
    | succ i => obtain ⟨y, u, h1, h2⟩ := ih (i := i) (by simpa using e); exact ⟨y, u, by simpa using h1, h2⟩
theorem set_list {l : Addr} {items : Array Value} {xs : List Str} {Q : Value → Shared → Prop} (hh : A.handled = none) (hl : s.heap.IsList l items) (hi : StrsAre items.toList xs) (U : List Str) (hU : ∀ x ∈ xs, x ∈ U) (hb : U.length + 1 < scanBound)
    (h : ∀ (h' : Heap) (tk c : Nat), TxSet w h' s.heap.objs.size (fun j => decide (j ∈ xs)) c → c ≤ xs.length → (∀ b o, s.heap.get? b = some o → h'.get? b = some o) → Q (.ref s.heap.objs.size) { s with heap := h', toks := tk }) :
    wpAny (model P w) A (call (.type "set") [(.ref l)]) Q E s := by
  obtain ⟨c, tl, hmro⟩ := F.called_set.mro
  have hmade := F.called_set.made
  have hsub := F.called_set.sub
  refine wpAny_call (codeAny_of_tree ?_)
  show wpAny _ _ (callAny (.type "set") _) _ _ _
  refine wpAny_pure ⟨Code.quiet_builtin _ (by decide +kernel), codeAny_builtin F.entry_type_call ?_⟩
  rw [Around.under_plain (weight_type_call_type "set" [(.ref l)] []) rfl]
  have h1 := F.called_set.notType
  have h2 := F.called_set.canCreate
  have hct := F.typeCall_set_1 (.ref l)
  repeat (any_goals (first | assumption | wp_step))
  refine codeAny_mono (code_set_led1 (.ref l) (E := E) (Q₁ := fun obj s₁ => obj = .ref s.heap.objs.size ∧ s₁ = { s with heap := s.heap.push (newSetO w) }) ⟨rfl, rfl⟩) fun r s₁ hr => ?_
  cases r with
  | error e => exact hr
  | ok fl =>
    cases fl with
    | ret obj =>
      obtain ⟨rfl, rfl⟩ := hr
      have hS : (s.heap.push (newSetO w)).get? s.heap.objs.size = some (newSetO w) := Heap.get?_push_size _ rfl
      have hT : Shared.TypeIs { s with heap := s.heap.push (newSetO w) } (.ref s.heap.objs.size) "set" := ⟨_, hS, rfl⟩
      have hz1 : (s.heap.push (newSetO w)).objs.size = s.heap.objs.size + 1 := Heap.size_push ..
      have hli := F.called_set.init.lookup
      have hbi := F.called_set.init.bind (.ref s.heap.objs.size)
      repeat (any_goals (first | assumption | wp_step))
      refine codeAny_mono (codeAny_call_builtin (R := wants (fun r s₂ => r = .none ∧ ∃ h' tk c, s₂ = { s with heap := h', toks := tk } ∧ TxSet w h' s.heap.objs.size (fun j => decide (j ∈ xs)) c ∧ c ≤ xs.length ∧ (∀ b o, s.heap.get? b = some o → h'.get? b = some o)) E)
        F.called_set.init.plain F.entry_set_init (check_set_init_1 hT ?_)) fun r₂ s₂ hr₂ => ?_
      · obtain ⟨ol, hol, hcl, nl, hdl⟩ := hl
        obtain ⟨ocls, odict, odata, oslots⟩ := ol
        simp only at hcl hdl
        subst hcl; subst hdl
        have hol' : (s.heap.push (newSetO w)).get? l = some { cls := .type "list", dict := odict, data := .seq items nl, slots := oslots } := Heap.get?_push_of_some _ hol
        have hsls := F.sub_list_set
        have hslf := F.sub_list_frozenset
        have hne : (Value.type "list" == Value.type "dict") = false := by decide
        have hl1 : (s.heap.push (newSetO w)).IsList l items := ⟨_, hol', rfl, nl, rfl⟩
        unfold Builtin.«set.__init__» noKeywords Builtin.Frozenset.updateFrom
        generalize hPI : pyIter = PI
        wp_walk
        subst hPI
        refine wpAny_pyIter_list hl1 ?_
        refine wpAny_bind (wpAny_runValue ?_)
        have hlS : l < s.heap.objs.size := Heap.lt_size hol
        have hh3 : A.in1.in1.in1.handled = none := by simp [hh]
        have neI : l ≠ (s.heap.push (newSetO w)).objs.size := by
          rw [Heap.size_push]; exact Nat.ne_of_lt (Nat.lt_succ_of_lt hlS)
        have naf : s.heap.objs.size ∉ [(s.heap.push (newSetO w)).objs.size, l] := by
          rw [Heap.size_push]; simp only [List.mem_cons, List.mem_singleton, List.not_mem_nil, or_false, not_or]
          exact ⟨Nat.ne_of_lt (Nat.lt_succ_self _), Nat.ne_of_gt hlS⟩
        have hsz : xs.length = items.size := by rw [← StrsAre.len_eq hi, Array.length_toList]
        refine tx_update ((Walks.list hh3 _ l neI items).toS) s.heap.objs.size naf xs hsz U hU hb (fun i v hv => strs_in hi (by rw [Array.getElem?_toList]; exact hv)) (items.size - 0) 0 _ (by omega) (Nat.zero_le _)
          ⟨⟨_, Heap.get?_push_size _ rfl, rfl, rfl⟩, (hl1.push _)⟩ ⟨0, Nat.le_refl 0, tx_fresh' (Heap.get?_push_of_some _ hS)⟩ ?hR
        case hR =>
          intro s' c' hm hc' hS'
          obtain ⟨h', g2, d', tk', os'⟩ := s'
          have eg : g2 = s.gens := hm.gens
          have ed : d' = s.drawn := hm.drawn
          have eo : os' = s.os := hm.os
          subst eg; subst ed; subst eo
          show wpAny _ _ _ _ _ _
          refine wpAny_pure ?_
          show wpAny _ _ (ret Value.none) _ _ _
          rw [← hsz] at hc'
          refine wpAny_pure ⟨rfl, h', tk', c', rfl, hS', hc', fun b o e => ?_⟩
          have hb0 : b < s.heap.objs.size := Heap.lt_size e
          have hb1 : b ≠ s.heap.objs.size := Nat.ne_of_lt hb0
          have hb2 : b ≠ (s.heap.push (newSetO w)).objs.size := by
            rw [Heap.size_push]; exact Nat.ne_of_lt (Nat.lt_succ_of_lt hb0)
          exact hm.heap b o (by simp only [List.mem_cons, List.mem_singleton, List.not_mem_nil, or_false, not_or]; exact ⟨hb1, hb2⟩) (Heap.get?_push_of_some _ (Heap.get?_push_of_some _ e))
      · cases r₂ with
        | error e => exact hr₂
        | ok fl₂ =>
          cases fl₂ with
          | ret r =>
            obtain ⟨rfl, h', tk, c', rfl, hS', hc', hk'⟩ := hr₂
            repeat (any_goals (first | assumption | wp_step))
            exact h _ _ _ hS' hc' hk'
          | _ => exact hr₂.elim
    | _ => exact hr.elim
theorem set_text {z : Str} {u : Tok} {Q : Value → Shared → Prop} (hh : A.handled = none) (U : List Str) (hU : ∀ x ∈ (z.cps.toList.map fun c => (⟨#[c]⟩ : Str)), x ∈ U) (hb : U.length + 1 < scanBound)
    (h : ∀ (h' : Heap) (tk c : Nat), TxSet w h' s.heap.objs.size (fun j => decide (j ∈ (z.cps.toList.map fun c => (⟨#[c]⟩ : Str)))) c → c ≤ (z.cps.toList.map fun c => (⟨#[c]⟩ : Str)).length → (∀ b o, s.heap.get? b = some o → h'.get? b = some o) → Q (.ref s.heap.objs.size) { s with heap := h', toks := tk }) :
    wpAny (model P w) A (call (.type "set") [(.str z u)]) Q E s := by
  obtain ⟨c, tl, hmro⟩ := F.called_set.mro
  have hmade := F.called_set.made
  have hsub := F.called_set.sub
  refine wpAny_call (codeAny_of_tree ?_)
  show wpAny _ _ (callAny (.type "set") _) _ _ _
  refine wpAny_pure ⟨Code.quiet_builtin _ (by decide +kernel), codeAny_builtin F.entry_type_call ?_⟩
  rw [Around.under_plain (weight_type_call_type "set" [(.str z u)] []) rfl]
  have h1 := F.called_set.notType
  have h2 := F.called_set.canCreate
  have hct := F.typeCall_set_1 (.str z u)
  repeat (any_goals (first | assumption | wp_step))
  refine codeAny_mono (code_set_led1 (.str z u) (E := E) (Q₁ := fun obj s₁ => obj = .ref s.heap.objs.size ∧ s₁ = { s with heap := s.heap.push (newSetO w) }) ⟨rfl, rfl⟩) fun r s₁ hr => ?_
  cases r with
  | error e => exact hr
  | ok fl =>
    cases fl with
    | ret obj =>
      obtain ⟨rfl, rfl⟩ := hr
      have hS : (s.heap.push (newSetO w)).get? s.heap.objs.size = some (newSetO w) := Heap.get?_push_size _ rfl
      have hT : Shared.TypeIs { s with heap := s.heap.push (newSetO w) } (.ref s.heap.objs.size) "set" := ⟨_, hS, rfl⟩
      have hz1 : (s.heap.push (newSetO w)).objs.size = s.heap.objs.size + 1 := Heap.size_push ..
      have hli := F.called_set.init.lookup
      have hbi := F.called_set.init.bind (.ref s.heap.objs.size)
      repeat (any_goals (first | assumption | wp_step))
      refine codeAny_mono (codeAny_call_builtin (R := wants (fun r s₂ => r = .none ∧ ∃ h' tk c, s₂ = { s with heap := h', toks := tk } ∧ TxSet w h' s.heap.objs.size (fun j => decide (j ∈ (z.cps.toList.map fun c => (⟨#[c]⟩ : Str)))) c ∧ c ≤ (z.cps.toList.map fun c => (⟨#[c]⟩ : Str)).length ∧ (∀ b o, s.heap.get? b = some o → h'.get? b = some o)) E)
        F.called_set.init.plain F.entry_set_init (check_set_init_1 hT ?_)) fun r₂ s₂ hr₂ => ?_
      · have hsls := PySem.F.sub_str_set
        have hslf := PySem.F.sub_str_frozenset
        have hne : (Value.type "str" == Value.type "dict") = false := by decide
        unfold Builtin.«set.__init__» noKeywords Builtin.Frozenset.updateFrom
        generalize hPI : pyIter = PI
        wp_walk
        subst hPI
        refine wpAny_pyIter_str fun oI Si hW hst => ?_
        refine wpAny_bind (wpAny_runValue ?_)
        have hh3 : A.in1.in1.in1.handled = none := by simp [hh]
        have naf : s.heap.objs.size ∉ [(s.heap.push (newSetO w)).objs.size] := by
          rw [Heap.size_push]; simp only [List.mem_singleton]
          exact Nat.ne_of_lt (Nat.lt_succ_self _)
        have hsz : (z.cps.toList.map fun c => (⟨#[c]⟩ : Str)).length = z.cps.size := by simp
        refine tx_update ((hW _ hh3).toS) s.heap.objs.size naf _ hsz U hU hb (fun i v hv => ?_) (z.cps.size - 0) 0 _ (by omega) (Nat.zero_le _) hst ⟨0, Nat.le_refl 0, tx_fresh' (Heap.get?_push_of_some _ hS)⟩ ?hR
        · obtain ⟨c, u, hc, rfl⟩ := hv
          exact ⟨_, u, by simp [hc], rfl⟩
        case hR =>
          intro s' c' hm hc' hS'
          obtain ⟨h', g2, d', tk', os'⟩ := s'
          have eg : g2 = s.gens := hm.gens
          have ed : d' = s.drawn := hm.drawn
          have eo : os' = s.os := hm.os
          subst eg; subst ed; subst eo
          show wpAny _ _ _ _ _ _
          refine wpAny_pure ?_
          show wpAny _ _ (ret Value.none) _ _ _
          rw [← hsz] at hc'
          refine wpAny_pure ⟨rfl, h', tk', c', rfl, hS', hc', fun b o e => ?_⟩
          have hb0 : b < s.heap.objs.size := Heap.lt_size e
          have hb1 : b ≠ s.heap.objs.size := Nat.ne_of_lt hb0
          have hb2 : b ≠ (s.heap.push (newSetO w)).objs.size := by
            rw [Heap.size_push]; exact Nat.ne_of_lt (Nat.lt_succ_of_lt hb0)
          exact hm.heap b o (by simp only [List.mem_cons, List.mem_singleton, List.not_mem_nil, or_false, not_or]; exact ⟨hb1, hb2⟩) (Heap.get?_push_of_some _ (Heap.get?_push_of_some _ e))
      · cases r₂ with
        | error e => exact hr₂
        | ok fl₂ =>
          cases fl₂ with
          | ret r =>
            obtain ⟨rfl, h', tk, c', rfl, hS', hc', hk'⟩ := hr₂
            repeat (any_goals (first | assumption | wp_step))
            exact h _ _ _ hS' hc' hk'
          | _ => exact hr₂.elim
    | _ => exact hr.elim
end
end Dl
end
section
namespace Dl
open PySem PySem.Spec PyProof.Rows L2

def TxO (w : World) (a : Addr) (S : Str → Bool) (n : Nat) : HO := .ext fun h => TxSet w h a S n
theorem txO_new {w : World} {P : Program} {H : Hp} {h : Heap} {a : Addr} {S : Str → Bool} {n : Nat} (R : TxSet w h a S n) : ObjOk P w H h a (TxO w a S n) := by
  obtain ⟨o, _, _, _, ho, _⟩ := R.ex
  exact ⟨R, ⟨o, ho⟩, fun h1 h2 p k => TxSet.at p k⟩
theorem strs_in_of : ∀ {l : List Value}, (∀ v ∈ l, ∃ k u, v = Value.str k u) → StrsAre l (l.map fun v => match v with | .str x _ => x | _ => Str.empty)
  | [], _ => .nil
  | v :: l, h => by
    obtain ⟨k, u, rfl⟩ := h v List.mem_cons_self
    exact .cons k u (strs_in_of fun v hv => h v (List.mem_cons_of_mem _ hv))
section
variable {P : Program} {w : World} {A : Around} {E : Value → Shared → Prop} {s : Shared} {a : Addr}
/-- a gathered list of texts, sorted -/
theorem sort_end {vs : List Value} {xs : List Str} {s1 : Shared} {Q : Value → Shared → Prop} (hS : StrsAre vs xs) (hl : vs.length ≤ sizeLine) (k1 : ∀ b o, s.heap.get? b = some o → s1.heap.get? b = some o) (hz : s.heap.objs.size ≤ s1.heap.objs.size) (g1 : s1.gens = s.gens) (o1 : s1.os = s.os)
    (hQ : ∀ s' p (out : Array Value) (c : Nat) (ys : List Str), (∀ b o, s.heap.get? b = some o → s'.heap.get? b = some o) → s'.gens = s.gens → s'.os = s.os → s.heap.objs.size ≤ p → s'.heap.get? p = some (seqObj "list" out c) → StrsAre out.toList ys → ys.Perm xs → sortedS ys = true → Q (.ref p) s') :
    wpAny (model P w) A (do
      let l ← newList vs
      let _ ← holding [l] (call (.builtin "list.sort") [l])
      ret l) (fun fin s' => ∃ v, fin = PySem.Fin.done (Flow.ret v) ∧ Q v s') E s1 := by
  refine wpAny_bind (wpAny_newList ?_ hl)
  have hoL : (s1.heap.push (seqObj "list" vs.toArray 0)).get? s1.heap.objs.size = some (seqObj "list" vs.toArray 0) := Heap.get?_push_size _ rfl
  refine wpAny_bind (wpAny_holding (wpAny_call_entry slot_list_sort ⟨_, hoL, rfl⟩ entry_list_sort (list_sort_treeKSt strKind_oneLt hoL hS.keysOf (fun v₁ v₂ rest e => keyKind_strs (by rw [← e]; exact hS)) hl fun st' hp hs _ => ⟨_, rfl, ?_⟩) (args_list_sort _)))
  obtain ⟨ys, h1, h2, h3⟩ := sorted_out_str hS hp hs
  obtain ⟨c, hc⟩ := sortedHeap_at (vs := vs) (out := (arrOf st').map (·.2)) hoL
  refine wpAny_pure ⟨_, rfl, hQ _ s1.heap.objs.size _ c ys (fun b u e => ?_) g1 o1 hz hc h1 h2 h3⟩
  have q := k1 b u e
  have hlt := Heap.lt_size q
  show (sortedHeap (s1.heap.push (seqObj "list" vs.toArray 0)) s1.heap.objs.size vs _).get? b = some u
  rw [sortedHeap_old (Nat.ne_of_lt hlt) (by rw [size_push']; exact Nat.lt_succ_of_lt hlt)]
  exact Heap.get?_push_of_some _ q
theorem sorted_tx {S : Str → Bool} {n : Nat} {Q : Value → Shared → Prop} (Z : TxSet w s.heap a S n) (hh : A.handled = none)
    (hQ : ∀ s' p (out : Array Value) (c : Nat) (ys : List Str), (∀ b o, s.heap.get? b = some o → s'.heap.get? b = some o) → s'.gens = s.gens → s'.os = s.os → s.heap.objs.size ≤ p → s'.heap.get? p = some (seqObj "list" out c) → StrsAre out.toList ys → sortedS ys = true → ys.Nodup → (∀ k, k ∈ ys ↔ S k = true) → ys.length = n → Q (.ref p) s') :
    wpAny (model P w) A (call (.builtin "sorted") [.ref a]) Q E s := by
  obtain ⟨o, es, ep, t, ho, hex, hd, g, nd, hm, hb, hf, hn, hr, hl⟩ := Z.ex
  refine Calls.call_function_entry kind_sorted plain_sorted entry_sorted (args_sorted1 _) ?_
  unfold Builtin.«sorted»
  refine wpAny_bind (m := checkCount "sorted" 1 1 _) (wpAny_pure ?_)
  refine wpAny_bind (collect_set (A := A.in1) hh ⟨o, ho, hex.1, hd⟩ hf hb hr hl fun s1 vs k1 hz g1 o1 pm => ?_)
  have hvl : vs.length = n := by rw [pm.length_eq, List.length_map, Array.length_toList]; exact hn
  have hI := strs_in_of (l := vs) fun v hv => by
    obtain ⟨e, he, q⟩ := List.mem_map.mp (pm.mem_iff.mp hv)
    obtain ⟨k, tk, h1, _⟩ := g e he
    exact ⟨k, tk, by rw [← q]; exact h1⟩
  have pk : (vs.map fun v => match v with | .str x _ => x | _ => Str.empty).Perm (es.toList.map txKey) := by
    have q := pm.map fun v => match v with | .str x _ => x | _ => Str.empty
    rw [List.map_map] at q
    exact q
  refine sort_end (s := s) hI ?_ k1 hz g1 o1 fun s' p out c ys h1 h2 h3 h4 h5 h6 h7 h8 => ?_
  · rw [hvl, sizeLine_eq, ← hn]
    exact Nat.le_of_lt (Nat.lt_of_lt_of_le hb (by decide))
  · have pp := h7.trans pk
    exact hQ s' p out c ys h1 h2 h3 h4 h5 h6 h8 (pp.nodup_iff.mpr nd) (fun k => by rw [pp.mem_iff, ← hm k]) (by rw [pp.length_eq, List.length_map, Array.length_toList]; exact hn)
theorem signs_of {x : Str} {acc : Array Value} (h : ItemsOf (SignAt x) acc x.cps.size) : StrsAre acc.toList (x.cps.toList.map fun c => (⟨#[c]⟩ : Str)) :=
  strs_at (by rw [Array.length_toList, h.1, List.length_map, Array.length_toList]) fun j v e => by
    obtain ⟨c, u, h1, h2⟩ := h.2 j v (by rw [← Array.getElem?_toList]; exact e)
    exact ⟨⟨#[c]⟩, u, by rw [List.getElem?_map, Array.getElem?_toList, h1]; rfl, h2⟩
/-- the signs of a text gathered: the heap has grown -/
theorem collect_signs {Q : List Value → Shared → Prop} (hh : A.handled = none) (x : Str) (t : Tok) (hn : x.cps.size ≤ sizeLine)
    (hQ : ∀ s' acc, (∀ b o, s.heap.get? b = some o → s'.heap.get? b = some o) → s.heap.objs.size ≤ s'.heap.objs.size → s'.gens = s.gens → s'.os = s.os → ItemsOf (SignAt x) acc x.cps.size → Q acc.toList s') :
    wpAny (model P w) A (collect (.str x t)) Q E s := by
  unfold collect
  refine wpAny_bind (wpAny_runValue (codeAny_builtin PySem.F.entry_proto_collect ?_))
  rw [Around.under_plainId PySem.F.plain_proto_collect _]
  show wpAny _ A.in1 (newList [] >>= fun l => again (.builtin "list.__iadd__" ⟨[l, .str x t], []⟩)) _ _ s
  refine wpAny_bind (wpAny_newObj_type ?_)
  refine wpAny_pure ⟨plainId_quiet PySem.F.plain_list_iadd _, codeAny_builtin PySem.F.entry_list_iadd ?_⟩
  rw [Around.under_plainId PySem.F.plain_list_iadd _]
  show wpAny _ A.in1 (Builtin.List.listExtendWith (.ref s.heap.objs.size) (.str x t) (.ref s.heap.objs.size)) _ _ _
  unfold Builtin.List.listExtendWith
  refine wpAny_bind (wpAny_typeOf (T := "str") (v := .str x t) rfl ?_)
  have h1 : Builtin.List.listSameRef (.ref s.heap.objs.size) (.str x t) = false := rfl
  have h2 : (Value.type "str" == Value.type "list") = false := by decide
  have h3 : (Value.type "str" == Value.type "tuple") = false := by decide
  simp only [h1, h2, h3, Bool.or_false, Bool.false_eq_true, if_false]
  refine wpAny_bind (wpAny_pyIter_str fun o St W hst => ?_)
  refine wpAny_bind (wpAny_holding ?_)
  unfold Builtin.List.listLengthHint
  refine wpAny_bind (wpAny_specialOf (T := "str") (v := .str x t) rfl PySem.F.str_len ?_)
  wp_delta
  refine wpAny_bind (wpAny_isInstance (T := "str") (v := .str x t) (b := true) rfl (by rw [isSubtype_type]; kernel_rfl) ?_)
  show wpAny _ A.in1 (typeOf (Value.str x t) >>= _) _ _ _
  refine wpAny_bind (wpAny_typeOf (T := "str") (v := .str x t) rfl ?_)
  refine wpAny_pure ?_
  rw [if_neg (by decide)]
  generalize hH : s.heap.push { cls := .type "list", data := .seq ([] : List Value).toArray } = H at W hst ⊢
  have hHs : H.objs.size = s.heap.objs.size + 1 := by rw [← hH, Heap.size_push]
  have hSf : s.heap.objs.size ∉ [H.objs.size] := fun hm => by rw [List.mem_singleton.mp hm] at hHs; exact absurd hHs (Nat.ne_of_lt (Nat.lt_succ_self _))
  have hS : (H.push o).get? s.heap.objs.size = some { cls := .type "list", data := .seq ([] : List Value).toArray } := Heap.get?_push_of_some _ (hH ▸ Heap.get?_push_size _ rfl)
  refine wpAny_pure ⟨plainId_quiet PySem.F.plain_extend_loop _, codeAny_extend_loopS (W A.in1 hh).toS hn _ hSf _ x.cps.size 0 _ _ _ rfl (Nat.zero_le _) hst hS (ItemsOf.nil _) fun s' acc' c' hm hS' hacc => ?_⟩
  show wpAny _ A (load s.heap.objs.size >>= _) _ _ s'
  refine wpAny_bind (wpAny_load hS' ?_)
  refine wpAny_pure (hQ s' acc' (fun b ob e => hm.heap b ob (fun hb => ?_) (Heap.get?_push_of_some _ (hH ▸ Heap.get?_push_of_some _ e))) (Nat.le_of_lt (Heap.lt_size hS')) hm.gens hm.os hacc)
  have hlt := Heap.lt_size e
  rcases List.mem_cons.mp hb with h | h
  · exact absurd hlt (h ▸ Nat.lt_irrefl _)
  · rw [List.mem_singleton.mp h, hHs] at hlt; exact absurd hlt (Nat.not_lt.mpr (Nat.le_succ _))
theorem sorted_text {z : Str} {u : Tok} {Q : Value → Shared → Prop} (hh : A.handled = none) (hz : z.cps.size ≤ sizeLine)
    (hQ : ∀ s' p (out : Array Value) (c : Nat) (ys : List Str), (∀ b o, s.heap.get? b = some o → s'.heap.get? b = some o) → s'.gens = s.gens → s'.os = s.os → s.heap.objs.size ≤ p → s'.heap.get? p = some (seqObj "list" out c) → StrsAre out.toList ys → ys.Perm (z.cps.toList.map fun c => (⟨#[c]⟩ : Str)) → sortedS ys = true → Q (.ref p) s') :
    wpAny (model P w) A (call (.builtin "sorted") [.str z u]) Q E s := by
  refine Calls.call_function_entry kind_sorted plain_sorted entry_sorted (args_sorted1 _) ?_
  unfold Builtin.«sorted»
  refine wpAny_bind (m := checkCount "sorted" 1 1 _) (wpAny_pure ?_)
  refine wpAny_bind (collect_signs (A := A.in1) hh z u hz fun s1 acc k1 hsz g1 o1 ha => ?_)
  have hl : acc.toList.length ≤ sizeLine := by rw [Array.length_toList, ha.1]; exact hz
  exact sort_end (s := s) (signs_of ha) hl k1 hsz g1 o1 fun s' p out c ys h1 h2 h3 h4 h5 h6 h7 h8 => hQ s' p out c ys h1 h2 h3 h4 h5 h6 h7 h8
end
section
variable {X : Cx}
theorem laid_strs {pins : List (Addr × Obj)} {σ : L2.St} {H : Hp} {s s' : Shared} {p : Addr} {out : Array Value} {c : Nat} {ys : List Str} (I : Inv X pins σ H s) (k : ∀ b o, s.heap.get? b = some o → s'.heap.get? b = some o) (g : s'.gens = s.gens) (o : s'.os = s.os) (hp : s.heap.objs.size ≤ p)
    (hg : s'.heap.get? p = some (seqObj "list" out c)) (hi : StrsAre out.toList ys) (hl : ys.length ≤ sizeLine) : H p = none ∧ Inv X pins σ (upd H p (.lst (ys.map V.str))) s' := by
  have hn : H p = none := I.hok.fresh hp
  have hlen : (ys.map V.str).length ≤ sizeLine := by rw [List.length_map]; exact hl
  refine ⟨hn, I.call' (ch := []) o (Un.laid k hp hn) (I.hok.laid k hp ⟨hlen, out.toList, c, vals_of_strs hi, hg⟩) (by rw [g]; exact I.bare) (fun _ z => nomatch z)⟩
/-- sorted of a set of texts -/
theorem call_sortedTx (hc : X.calm = true) : CallR X (.builtin "sorted") (fun vs H Q => ∃ (a : Addr) (S : Str → Bool) (n : Nat), vs = [V.ref a] ∧ H a = some (TxO X.w a S n) ∧
    ∀ (ys : List Str) (p : Addr), sortedS ys = true → ys.Nodup → (∀ k, k ∈ ys ↔ S k = true) → ys.length = n → H p = none → Q (.ref p) (upd H p (.lst (ys.map V.str)))) := by
  intro pins s σ H vs us Q I r h
  obtain ⟨a, S, n, rfl, ha, q⟩ := h
  have R : TxSet X.w s.heap a S n := (I.hok a _ ha).1
  have hn : n < scanBound := by
    obtain ⟨o, es, ep, t, _, _, _, _, _, _, hb, _, e, _⟩ := R.ex
    rw [← e]; exact hb
  rw [Vals.ref1 r]
  refine sorted_tx R (I.ok.hd hc) fun s' p out c ys k g o hp hg hi hs hnd hm hl => ?_
  obtain ⟨h1, J⟩ := laid_strs (σ := σ) (H := H) I k g o hp hg hi (by rw [hl, sizeLine_eq]; exact Nat.le_of_lt (Nat.lt_of_lt_of_le hn (by decide)))
  exact ⟨.ref p, _, J, rfl, q ys p hs hnd hm hl h1⟩
/-- sorted of a text -/
theorem call_sortedS1 (hc : X.calm = true) : CallR X (.builtin "sorted") (fun vs H Q => ∃ (z : Str), vs = [V.str z] ∧ z.cps.size ≤ sizeLine ∧
    ∀ (ys : List Str) (p : Addr), ys.Perm (z.cps.toList.map fun c => (⟨#[c]⟩ : Str)) → sortedS ys = true → H p = none → Q (.ref p) (upd H p (.lst (ys.map V.str)))) := by
  intro pins s σ H vs us Q I r h
  obtain ⟨z, rfl, hz, q⟩ := h
  obtain ⟨u, rfl, ru⟩ := vals1 r
  obtain ⟨t, rfl⟩ := ru
  refine sorted_text (I.ok.hd hc) hz fun s' p out c ys k g o hp hg hi pm hs => ?_
  obtain ⟨h1, J⟩ := laid_strs (σ := σ) (H := H) I k g o hp hg hi (by rw [pm.length_eq, List.length_map, Array.length_toList]; exact hz)
  exact ⟨.ref p, _, J, rfl, q ys p pm hs h1⟩
/-- set of a list of texts -/
theorem call_setL (hc : X.calm = true) : CallR X (.type "set") (fun vs H Q => ∃ (a : Addr) (xs U : List Str), vs = [V.ref a] ∧ SqL X.K H a (xs.map V.str) ∧ (∀ x ∈ xs, x ∈ U) ∧ U.length + 1 < scanBound ∧
    ∀ (p : Addr) (c : Nat), c ≤ xs.length → H p = none → Q (.ref p) (upd H p (TxO X.w p (fun j => decide (j ∈ xs)) c))) := by
  intro pins s σ H vs us Q I r h
  obtain ⟨a, xs, U, rfl, hs, hU, hb, q⟩ := h
  obtain ⟨its, rv, hl, _⟩ := I.list hs
  rw [Vals.ref1 r]
  refine set_list (I.ok.hd hc) hl.isList rv.strs U hU hb fun h' tk c Z hc' k => ?_
  exact ⟨.ref _, _, I.laid (t' := tk) k (Nat.le_refl _) (txO_new Z), rfl, q _ c hc' (I.hok.fresh (Nat.le_refl _))⟩
/-- set of a text -/
theorem call_setS (hc : X.calm = true) : CallR X (.type "set") (fun vs H Q => ∃ (z : Str) (U : List Str), vs = [V.str z] ∧ (∀ x ∈ (z.cps.toList.map fun c => (⟨#[c]⟩ : Str)), x ∈ U) ∧ U.length + 1 < scanBound ∧
    ∀ (p : Addr) (c : Nat), c ≤ (z.cps.toList.map fun c => (⟨#[c]⟩ : Str)).length → H p = none → Q (.ref p) (upd H p (TxO X.w p (fun j => decide (j ∈ (z.cps.toList.map fun c => (⟨#[c]⟩ : Str)))) c))) := by
  intro pins s σ H vs us Q I r h
  obtain ⟨z, U, rfl, hU, hz, q⟩ := h
  obtain ⟨u, rfl, ru⟩ := vals1 r
  obtain ⟨t, rfl⟩ := ru
  refine set_text (I.ok.hd hc) U hU hz fun h' tk c Z hc' k => ?_
  exact ⟨.ref _, _, I.laid (t' := tk) k (Nat.le_refl _) (txO_new Z), rfl, q _ c hc' (I.hok.fresh (Nat.le_refl _))⟩
end
end Dl
end
section
/-! raw rules that the layer lacks: text * int, t[::-1] of a tuple, repr of a bool -/
namespace Dl
open PySem PySem.Spec PyProof.Rows L2
section
variable {prog : Program} {w : World} {A : Around} {E : Value → Shared → Prop} {s : Shared}
theorem fold_rep (l : List Nat) : ∀ (n : Nat) (acc : List Nat), (List.replicate n l.toArray).foldl (· ++ ·) acc.toArray = (acc ++ (List.replicate n l).flatten).toArray
  | 0, acc => by simp
  | n + 1, acc => by
    rw [List.replicate_succ, List.foldl_cons, List.append_toArray, fold_rep l n, List.replicate_succ, List.flatten_cons, List.append_assoc]
theorem rep_len (l : List Nat) (n : Nat) : (List.replicate n l).flatten.length = n * l.length := by
  induction n with
  | zero => simp
  | succ n ih => rw [List.replicate_succ, List.flatten_cons, List.length_append, ih, Nat.succ_mul, Nat.add_comm]
theorem fm_congr {α β : Type} {f g : α → Option β} : ∀ {l : List α}, (∀ a ∈ l, f a = g a) → l.filterMap f = l.filterMap g
  | [], _ => rfl
  | a :: l, h => by
    rw [List.filterMap_cons, List.filterMap_cons, h a List.mem_cons_self, fm_congr fun a ha => h a (List.mem_cons_of_mem _ ha)]
theorem rev_places (n : Nat) : Builtin.Slice.slicePlaces ((n : Int) - 1) (-1) (-1) = n := by
  unfold Builtin.Slice.slicePlaces
  have h1 : ¬ ((-1 : Int) > 0) := by omega
  simp only [h1, if_false]
  split
  · have : (- (-1 : Int)) = 1 := by omega
    rw [this, Int.ediv_one]
    omega
  · omega
theorem pick_rev (xs : Array Value) : ((List.range xs.size).filterMap fun (m : Nat) => xs[((xs.size : Int) - 1 + (m : Int) * -1).toNat]?) = xs.toList.reverse := by
  have e : ∀ m, m < xs.size → ((xs.size : Int) - 1 + (m : Int) * -1).toNat = xs.size - 1 - m := fun m h => by omega
  have h1 : (List.range xs.size).filterMap (fun (m : Nat) => xs[((xs.size : Int) - 1 + (m : Int) * -1).toNat]?) = (List.range xs.size).filterMap (fun m => xs.toList.reverse[m]?) := by
    refine fm_congr fun m hm => ?_
    have hm := List.mem_range.mp hm
    rw [e m hm, List.getElem?_reverse (by simpa using hm), Array.length_toList, Array.getElem?_toList]
  have h2 : ∀ l : List Value, (List.range l.length).filterMap (fun m => l[m]?) = l := fun l => by
    induction l with
    | nil => rfl
    | cons a l ih =>
      rw [List.length_cons, List.range_succ_eq_map, List.filterMap_cons]
      simp only [List.getElem?_cons_zero, List.filterMap_map]
      refine congrArg (a :: ·) ?_
      exact (fm_congr fun m _ => by simp [Function.comp]).trans ih
  have h3 := h2 xs.toList.reverse
  rw [List.length_reverse, Array.length_toList] at h3
  exact h1.trans h3
theorem sliceApplied_rev {sl : Addr} {vs : Value} {n : Nat} {Q : Int × Int × Nat → Shared → Prop} (hs : s.heap.IsSliceOf sl .none .none vs) (ps : IsPart vs (some (-1)))
    (h : Q ((n : Int) - 1, -1, n) s) : wpAny (model prog w) A (Builtin.Slice.sliceApplied (.ref sl) (pure (n : Int))) Q E s := by
  obtain ⟨os, hos, hcs, hds⟩ := id hs
  unfold Builtin.Slice.sliceApplied Builtin.Slice.sliceFields
  refine wpAny_bind (wpAny_bind (wpAny_field hos hds (x := .none) rfl (wpAny_bind (wpAny_field hos hds (x := .none) rfl (wpAny_bind (wpAny_field hos hds (x := vs) rfl (wpAny_pure ?_)))))))
  refine wpAny_bind (HT.slicePart_ ps ?_)
  show wpAny _ _ (if ((-1 : Int) == 0) = true then _ else _) _ _ s
  rw [if_neg (by decide)]
  refine wpAny_bind (slicePart_none (wpAny_bind (slicePart_none (wpAny_bind (wpAny_pure ?_)))))
  show wpAny _ _ (match Builtin.Slice.sliceAdjust none none (-1) (n : Int) with | (lo, hi) => pure (lo, (-1 : Int), Builtin.Slice.slicePlaces lo hi (-1))) _ _ s
  show wpAny _ _ (pure ((n : Int) - 1, (-1 : Int), Builtin.Slice.slicePlaces ((n : Int) - 1) (-1) (-1))) _ _ s
  rw [rev_places]
  exact wpAny_pure h
theorem getItem_tuple_rev {t sl : Addr} {items : Array Value} {vs : Value} {Q : Value → Shared → Prop} (ht : IsTup s.heap t items) (hs : s.heap.IsSliceOf sl .none .none vs) (ps : IsPart vs (some (-1)))
    (h : Q (.ref s.heap.objs.size) { s with heap := s.heap.push { cls := .type "tuple", data := .seq items.toList.reverse.toArray } })
    (hsz : items.size ≤ sizeLine) : wpAny (model prog w) A (getItem (.ref t) (.ref sl)) Q E s := by
  have htake : sizeOk (.seq items.toList.reverse.toArray) := by
    show items.toList.reverse.toArray.size ≤ sizeLine
    rw [List.size_toArray, List.length_reverse, Array.length_toList]
    exact hsz
  obtain ⟨os, hos, hcs, hds⟩ := id hs
  have hTs : s.TypeIs (.ref sl) "slice" := ⟨os, hos, hcs⟩
  unfold getItem
  try with_reducible refine wpAny_holding ?_
  first | refine wpAny_bind (wpAny_pure ?_) | skip
  refine wpAny_bind (wpAny_sequenceKey ht.typeIs (by decide) ?_)
  refine wpAny_bind (wpAny_callSpecial?_slot (name := Str.ofString "__getitem__") ht.typeIs PyProof.Rows.slot_tuple_getitem
    (wpAny_call_entry PyProof.Rows.slot_tuple_getitem ht.typeIs entry_tuple_getitem ?_ (args_tuple_getitem _ _)))
  show wpAny _ _ (Builtin.Tuple.tupleItemsOf (.ref t) >>= _) _ _ s
  refine wpAny_bind (tupleItemsOf_ ht ?_)
  refine wpAny_bind (wpAny_typeOf hTs ?_)
  rw [if_pos (by decide)]
  refine wpAny_bind (sliceApplied_rev hs ps ?_)
  have hno : ¬ ((((items.size : Int) - 1) == 0 && (-1 : Int) == 1 && items.size == items.size) = true) := by
    intro q
    rw [Bool.and_eq_true, Bool.and_eq_true] at q
    exact absurd q.1.2 (by decide)
  show wpAny _ _ (if ((((items.size : Int) - 1) == 0 && (-1 : Int) == 1 && items.size == items.size) = true) then _ else _) _ _ s
  rw [if_neg hno, pick_rev]
  first
    | exact wpAny_bind (m := Builtin.Tuple.tupleExact _) (wpAny_newObj_type (wpAny_pure ⟨_, rfl, wpAny_pure h⟩) htake)
    | exact wpAny_bind (m := Builtin.Tuple.tupleExact _) (wpAny_newObj_type (wpAny_bind (wpAny_pure (wpAny_pure ⟨_, rfl, wpAny_pure h⟩))) htake)
    | exact wpAny_bind (wpAny_bind (m := Builtin.Tuple.tupleExact _) (wpAny_newObj_type (wpAny_pure (wpAny_pure ⟨_, rfl, wpAny_pure h⟩)) htake))
    | exact wpAny_bind (wpAny_bind (m := Builtin.Tuple.tupleExact _) (wpAny_newObj_type (wpAny_pure ⟨_, rfl, wpAny_pure h⟩) htake))
end
section
variable {X : Cx}
theorem rep_zero {l : List Nat} (h : l = []) (n : Nat) : (List.replicate n l).flatten = l := by
  subst h
  exact List.eq_nil_of_length_eq_zero (by rw [rep_len]; rfl)
theorem rep_one (l : List Nat) : (List.replicate 1 l).flatten = l := by
  rw [List.replicate_succ, List.flatten_cons]
  exact List.append_nil l
theorem op_smul : OpR X (binaryOp .Mult) (fun x y H Q => ∃ (l : List Nat) (n : Nat), x = .str ⟨l.toArray⟩ ∧ y = .int n ∧ l.length * n ≤ 16777216 ∧ n ≤ 16777216 ∧ Q (.str ⟨(List.replicate n l).flatten.toArray⟩) H) := by
  intro pins s σ H x y v u Q I rx ry h
  obtain ⟨l, n, rfl, rfl, hz, hn, q⟩ := h
  obtain ⟨t, rfl⟩ := rx
  obtain ⟨t', rfl⟩ := ry
  have el : (⟨l.toArray⟩ : Str).length = l.length := List.size_toArray
  refine PySem.P.mul_str ?_ ?_ ?_ ?_
  · rw [decide_eq_false (by omega), decide_eq_false (by omega)]; rfl
  · intro h1 _ h2
    rw [el] at h2
    have h3 : (l.length : Int) * n ≤ 2 ^ 63 - 1 := by
      have : ((l.length * n : Nat) : Int) ≤ ((16777216 : Nat) : Int) := Int.ofNat_le.mpr hz
      rw [Int.natCast_mul] at this
      omega
    have h4 : (0 : Int) < n := by
      rcases Nat.eq_zero_or_pos n with z | z
      · exact absurd (by rw [z]; decide) h1
      · exact Int.ofNat_lt.mpr z
    have := Int.le_ediv_of_mul_le h4 h3
    omega
  · intro _ _
    show decide _ = false
    rw [el, Int.toNat_natCast]
    exact decide_eq_false (by rw [sizeLine_eq]; omega)
  · by_cases h1 : (n : Int) < 1
    · have : n = 0 := by omega
      subst this
      rw [if_pos h1]
      exact ⟨by decide, .str _, H, I.tok _, ⟨_, rfl⟩, q⟩
    · rw [if_neg h1]
      by_cases h2 : ((n : Int) == 1 || (⟨l.toArray⟩ : Str).length == 0) = true
      · rw [if_pos h2]
        have e : (List.replicate n l).flatten = l := by
          rw [Bool.or_eq_true] at h2
          rcases h2 with h2 | h2
          · have : n = 1 := by have := eq_of_beq h2; omega
            rw [this]
            exact rep_one l
          · rw [el] at h2
            exact rep_zero (List.eq_nil_of_length_eq_zero (eq_of_beq h2)) n
        rw [e] at q
        exact ⟨.str _, H, I, ⟨_, rfl⟩, q⟩
      · rw [if_neg h2, Int.toNat_natCast]
        have e := fold_rep l n []
        rw [List.nil_append] at e
        have e2 : (List.replicate n (⟨l.toArray⟩ : Str).cps).foldl (· ++ ·) #[] = (List.replicate n l).flatten.toArray := e
        rw [e2]
        refine ⟨?_, .str _, H, I.tok _, ⟨_, rfl⟩, q⟩
        show (List.replicate n l).flatten.toArray.size ≤ sizeLine
        rw [List.size_toArray, rep_len, sizeLine_eq, Nat.mul_comm]
        exact hz
theorem call_repr_bl : CallR X (.builtin "repr") (fun xs H Q => ∃ b, xs = [.bl b] ∧ Q (.str (if b then "True" else "False")) H) := by
  intro pins s σ H xs us Q I r h
  obtain ⟨b, rfl, q⟩ := h
  obtain ⟨u, rfl, e⟩ := vals1 r
  cases e
  exact PySem.P.repr_of_bool ⟨.str _, H, I.tok _, ⟨_, rfl⟩, q⟩
def tRevT (K : PySem.W.Frag) (te : TE) : TE := fun σ H Q => te σ H fun x H1 => ∃ a xs, x = .ref a ∧ SqT K H1 a xs ∧ ∀ p o, H1 p = none → o.dict = none → Q (.ref p) (upd H1 p (.frz o (.tup xs.reverse)))
theorem pe_revT {e : Expr} {te : TE} {k : Nat} {p1 p2 p3 pos : Pos} (he : PE X e te) : PE X (.Subscript e (.Slice none none (some (.UnaryOp .USub (.Constant (.int 1) k p1) p2)) p3) pos) (tRevT X.K te) := by
  refine ⟨fun pins s σ H Q I h => ?_⟩
  refine Subscript_ (thn (he.run pins s σ H _ I h) fun v s1 ⟨x, H1, I1, r1, q1⟩ => ?_)
  obtain ⟨a, xs, ex, hx, q⟩ := q1
  subst ex
  cases r1
  have hst : PO X (some (.UnaryOp .USub (.Constant (.int 1) k p1) p2)) (tPart (tUn (rU fun i => .int (-i)) (tC (.int 1)))) := po_some (pe_un un_neg pe_int)
  refine wpAny_Slice (thn (po_none.run pins s1 σ H1 (fun o H2 => o = none ∧ H2 = H1) I1 ⟨rfl, rfl⟩) fun vl s2 ⟨l, H2, I2, pl, el, e2⟩ => ?_)
  subst el e2
  refine thn (po_none.run pins s2 σ H2 (fun o H3 => o = none ∧ H3 = H2) I2 ⟨rfl, rfl⟩) fun vu s3 ⟨u, H3, I3, pu, eu, e3⟩ => ?_
  subst eu e3
  refine thn (hst.run pins s3 σ H3 (fun o H4 => o = some (-1) ∧ H4 = H3) I3 ⟨1, rfl, -1, rfl, rfl, rfl⟩) fun vs s4 ⟨o, H4, I4, ps, eo, e4⟩ => ?_
  subst eo e4
  cases pl
  cases pu
  have I5 : Inv X pins σ H4 { s4 with heap := s4.heap.push { cls := .type "slice", data := .fields #[.none, .none, vs] } } := I4.kept (t' := s4.toks) fun b ob q => Heap.get?_push_of_some _ q
  obtain ⟨its, r, ht, hz⟩ := I5.tuple hx
  have hlen := r.length
  show wpAny (model X.prog X.w) X.A (subscriptTail e (.Slice none none (some (.UnaryOp .USub (.Constant (.int 1) k p1) p2)) p3) (.ref a) (.ref s4.heap.objs.size)) (EP X pins σ Q) X.xe { s4 with heap := s4.heap.push { cls := .type "slice", data := .fields #[.none, .none, vs] } }
  refine tail_any (ops := [.ref a, .ref s4.heap.objs.size]) ht.typeIs (PyProof.Rows.slot_tuple_getitem.lookup) ?_ (by with_unfolding_all rfl)
  refine getItem_tuple_rev ht (Heap.IsSliceOf.new _ .none .none vs) ps ?_ (by rw [List.size_toArray]; omega)
  refine ⟨.ref _, _, I5.laid (t' := s4.toks) (o := .frz { cls := .type "tuple", data := .seq its.toArray.toList.reverse.toArray } (.tup xs.reverse)) (fun b ob q => Heap.get?_push_of_some _ q) (Nat.le_refl _) ?_, rfl, q _ _ (I5.hok.fresh (Nat.le_refl _)) rfl⟩
  exact ⟨Heap.get?_push_size _ rfl, by rw [List.length_reverse]; exact hz, _, r.reverse, IsTup.new _ _⟩
end
end Dl
end
section
/-! built-in calls and operators, over data -/
namespace Dl
open PySem PySem.Spec PyProof.Rows L2
open Evl (Ex)

/-! ### isinstance -/
def tyN : D → String
  | .none => "NoneType"
  | .bool _ => "bool"
  | .int _ => "int"
  | .str _ => "str"
  | .list _ => "list"
  | .tuple _ => "tuple"
  | .dict _ => "dict"
def isi (d : D) (T : String) : Bool := tyN d == T || (tyN d == "bool" && T == "int")
theorem kit_all : ∀ T ∈ ["str", "int", "bool", "tuple", "list", "dict"], ∀ t ∈ ["NoneType", "bool", "int", "str", "list", "tuple", "dict"], kitB t T = some (t == T || (t == "bool" && T == "int")) := by decide +kernel
theorem tyN_in (d : D) : tyN d ∈ ["NoneType", "bool", "int", "str", "list", "tuple", "dict"] := by cases d <;> simp [tyN]
theorem dp_ty {K : PySem.W.Frag} {G H : Hp} {x : V} {d : D} (e : Ex G H) (h : DP G x d) : TyX K H x (.type (tyN d)) := by
  cases h with
  | non => exact .base .non
  | bl b => exact .base (.bl b)
  | int i => exact .base (.int i)
  | str x => exact .base (.str x)
  | lst h a => exact .base (.lst (e _ _ h))
  | tup h a => obtain ⟨o, h, _⟩ := h; exact .fTuple (e _ _ h)
  | dct h a => exact .fDict (e _ _ h)
theorem dp_kit {K : PySem.W.Frag} {d : D} {T : String} (hT : T ∈ ["str", "int", "bool", "tuple", "list", "dict"]) : PySem.W.kitOne K (.type (tyN d)) (.type T) = some (isi d T) := kit_ty (kit_all T hT _ (tyN_in d))

section
variable {X : Cx} {R : Addr → Prop} {e a b c : Expr} {es : List Expr} {ss : List Kd} {O O1 O2 O3 O' : Store} {k ka kb : Kd} {ks : List Kd} {Φ Ψ : Kd → Store → Prop} {pos : Pos}
theorem ev_isi {x : Str} {p : Pos} {d : D} {T : String} (ha : EV X R e ss O (.dat d) O1) (hc : EV X R c ss O1 (.val (.ty T)) O1) (hT : T ∈ ["str", "int", "bool", "tuple", "list", "dict"]) (hm : X.mg "isinstance" = none) (hx : x = "isinstance" := by rfl) (hg : Gl X x := by rfl)
    (he : starEach [e, c] X.env = (false, eval e X.env) :: starEach [c] X.env := by exact star_ne rfl) (he2 : starEach [c] X.env = (false, eval c X.env) :: starEach [] X.env := by exact star_ne rfl) (hpl : (backTo pos (starEach [c] X.env)).any (·.1) = false := by rfl) : EV X R (.Call (.Name x p) [e, c] [] pos) ss O (.dat (.bool (isi d T))) O1 := by
  subst hx
  refine ev_callB call_isi hg hm boot_isinstance (av_cons ha (av_cons hc av_nil he2) he) ?_ (he := he) (hpl := hpl)
  intro G0 H0 G H σ ss xs S h1 Q q
  obtain ⟨v, w, rfl, r1, r2⟩ := kinds2 h1
  have : w = .ty T := r2
  subst this
  exact ⟨v, .ty T, _, _, _, rfl, .ty T, dp_ty S.gh r1, dp_kit hT, q.d S (Ex.refl G) (DP.bl _) ⟨rfl, rfl⟩⟩
/-- isinstance(x, (A, B)) -/
theorem ev_isi2 {x : Str} {p p2 : Pos} {k : Nat} {d : D} {T U : String} (ha : EV X R e ss O (.dat d) O1) (hb : EV X R b ss O1 (.val (.ty T)) O1) (hc : EV X R c ss O1 (.val (.ty U)) O1) (hT : T ∈ ["str", "int", "bool", "tuple", "list", "dict"]) (hU : U ∈ ["str", "int", "bool", "tuple", "list", "dict"]) (hm : X.mg "isinstance" = none) (hx : x = "isinstance" := by rfl) (hg : Gl X x := by rfl)
    (hbc : starEach [b, c] X.env = (false, eval b X.env) :: starEach [c] X.env := by exact star_ne rfl) (hcc : starEach [c] X.env = (false, eval c X.env) :: starEach [] X.env := by exact star_ne rfl) 
    (he : starEach [e, .Tuple [b, c] k p2] X.env = (false, eval e X.env) :: starEach [.Tuple [b, c] k p2] X.env := by exact star_ne rfl) (he2 : starEach [.Tuple [b, c] k p2] X.env = (false, eval (.Tuple [b, c] k p2) X.env) :: starEach [] X.env := by exact star_ne rfl) (hpl : (backTo pos (starEach [.Tuple [b, c] k p2] X.env)).any (·.1) = false := by rfl) : EV X R (.Call (.Name x p) [e, .Tuple [b, c] k p2] [] pos) ss O (.dat (.bool (isi d T || isi d U))) O1 := by
  subst hx
  intro G0 H0 G H σ S L Q q
  refine wE_of (pe_callB call_isiT hg hm boot_isinstance paW (by decide) (by decide) he hpl) (wA_of (pa_cons peW (pa_cons (pe_tup paW) pa_nil he2) he) ?_)
  refine ha G0 H0 G H σ S L _ fun G1 H1 v k1 O2 S1 e1 r1 ⟨h1, h2⟩ => ?_
  subst h1 h2
  refine (av_cons hb (av_cons hc av_nil hcc) hbc) G0 H0 G1 H1 σ S1 L _ fun G2 H2 vs ks O3 S2 e2 r2 ⟨h3, h4⟩ => ?_
  subst h3 h4
  obtain ⟨u, w, rfl, r3, r4⟩ := kinds2 r2
  have : u = .ty T := r3
  subst this
  have : w = .ty U := r4
  subst this
  refine ⟨by rw [sizeLine_eq]; exact (by decide : 2 ≤ 16777216), fun p hp => ?_⟩
  have eg : Ex G2 (upd G2 p (.tup [.ty T, .ty U])) := Ex.new (S2.free hp)
  have S3 := S2.data hp (.tup [.ty T, .ty U])
  refine ⟨v, p, [.ty T, .ty U], _, [.type T, .type U], _, rfl, upd_same, .cons (.ty T) (.cons (.ty U) .nil), dp_ty (S3.gh) (dp_ex (e2.trans eg) r1), ?_, q.d S3 ((e1.trans e2).trans eg) (DP.bl _) ⟨rfl, rfl⟩⟩
  cases hb : isi d T with
  | true => exact kitAny_cons (dp_kit hT) (fun z => by rw [hb] at z; cases z) (fun _ => rfl)
  | false => exact kitAny_cons (dp_kit hT) (fun _ => kitAny_cons (dp_kit hU) (fun z => by rw [z]; exact kitAny_nil) (fun z => z)) (fun z => by rw [hb] at z; cases z)
/-- a call of a built-in of one, of two arguments -/
theorem ej_b1 {id : String} {r : List V → Hp → VK → Prop} {x : Str} {p : Pos} (hc : CallR X (.builtin id) r) (ha : EV X R e ss O k O1) (h : CJ X r [k] O1 Φ) (hm : X.mg x = none) (hv : bootBuiltins x = some (.builtin id)) (hg : Gl X x := by rfl)
    (hn : x ≠ "__name__" := by decide) (hdb : (x == ("__debug__" : Str)) = false := by decide) (he : starEach [e] X.env = (false, eval e X.env) :: starEach [] X.env := by exact star_ne rfl) (hpl : (backTo pos (starEach [] X.env)).any (·.1) = false := by rfl) : EJ X R (.Call (.Name x p) [e] [] pos) ss O Φ :=
  ev_callB hc hg hm hv (av_cons ha av_nil he) h hn hdb he hpl
theorem ej_t1 {id : String} {r : List V → Hp → VK → Prop} {x : Str} {p : Pos} (hc : CallR X (.type id) r) (ha : EV X R e ss O k O1) (h : CJ X r [k] O1 Φ) (hm : X.mg x = none) (hv : bootBuiltins x = some (.type id)) (hg : Gl X x := by rfl)
    (hn : x ≠ "__name__" := by decide) (hdb : (x == ("__debug__" : Str)) = false := by decide) (he : starEach [e] X.env = (false, eval e X.env) :: starEach [] X.env := by exact star_ne rfl) (hpl : (backTo pos (starEach [] X.env)).any (·.1) = false := by rfl) : EJ X R (.Call (.Name x p) [e] [] pos) ss O Φ :=
  ev_callTy hc hg hm hv (av_cons ha av_nil he) h hn hdb he hpl
theorem ej_b2 {id : String} {r : List V → Hp → VK → Prop} {x : Str} {p : Pos} {f : Expr} (hc : CallR X (.builtin id) r) (ha : EV X R e ss O ka O1) (hb : EV X R f ss O1 kb O2) (h : CJ X r [ka, kb] O2 Φ) (hm : X.mg x = none) (hv : bootBuiltins x = some (.builtin id)) (hg : Gl X x := by rfl)
    (hn : x ≠ "__name__" := by decide) (hdb : (x == ("__debug__" : Str)) = false := by decide) (he : starEach [e, f] X.env = (false, eval e X.env) :: starEach [f] X.env := by exact star_ne rfl) (he2 : starEach [f] X.env = (false, eval f X.env) :: starEach [] X.env := by exact star_ne rfl) (hpl : (backTo pos (starEach [f] X.env)).any (·.1) = false := by rfl) : EJ X R (.Call (.Name x p) [e, f] [] pos) ss O Φ :=
  ev_callB hc hg hm hv (av_cons ha (av_cons hb av_nil he2) he) h hn hdb he hpl
/-- .. of a new object that is let go -/
theorem ej_b1N {id : String} {r : List V → Hp → VK → Prop} {x : Str} {p : Pos} {b : Ob} (hc : CallR X (.builtin id) r) (ha : EN X R e ss O b O1) (h : ∀ q, CJ X r [.val (.ref q)] ((q, b) :: O1) fun k O' => Φ k (O'.drop 1)) (hm : X.mg x = none) (hv : bootBuiltins x = some (.builtin id)) (hg : Gl X x := by rfl)
    (hn : x ≠ "__name__" := by decide) (hdb : (x == ("__debug__" : Str)) = false := by decide) (he : starEach [e] X.env = (false, eval e X.env) :: starEach [] X.env := by exact star_ne rfl) (hpl : (backTo pos (starEach [] X.env)).any (·.1) = false := by rfl) : EJ X R (.Call (.Name x p) [e] [] pos) ss O Φ := fun G0 H0 G H σ S L Q q =>
  wE_of (pe_callB hc hg hm hv (pa_cons peW pa_nil he) hn hdb he hpl) (ha G0 H0 G H σ S L _ fun G1 H1 v k O2 S1 e1 r1 ⟨p, h1, h2⟩ => by
    subst h1 h2
    refine h p G0 H0 G1 H1 σ ss [v] S1 (.cons r1 .nil) Q fun G2 H2 v2 k2 O3 S2 e2 r2 p2 => ?_
    exact q G2 H2 v2 k2 _ (S2.less (fun q hq => List.mem_of_mem_drop hq) (S2.nd.sublist ((List.drop_sublist 1 O3).map _))) (e1.trans e2) r2 p2)
theorem ej_t1N {id : String} {r : List V → Hp → VK → Prop} {x : Str} {p : Pos} {b : Ob} (hc : CallR X (.type id) r) (ha : EN X R e ss O b O1) (h : ∀ q, CJ X r [.val (.ref q)] ((q, b) :: O1) fun k O' => Φ k (O'.drop 1)) (hm : X.mg x = none) (hv : bootBuiltins x = some (.type id)) (hg : Gl X x := by rfl)
    (hn : x ≠ "__name__" := by decide) (hdb : (x == ("__debug__" : Str)) = false := by decide) (he : starEach [e] X.env = (false, eval e X.env) :: starEach [] X.env := by exact star_ne rfl) (hpl : (backTo pos (starEach [] X.env)).any (·.1) = false := by rfl) : EJ X R (.Call (.Name x p) [e] [] pos) ss O Φ := fun G0 H0 G H σ S L Q q =>
  wE_of (pe_callTy hc hg hm hv (pa_cons peW pa_nil he) hn hdb he hpl) (ha G0 H0 G H σ S L _ fun G1 H1 v k O2 S1 e1 r1 ⟨p, h1, h2⟩ => by
    subst h1 h2
    refine h p G0 H0 G1 H1 σ ss [v] S1 (.cons r1 .nil) Q fun G2 H2 v2 k2 O3 S2 e2 r2 p2 => ?_
    exact q G2 H2 v2 k2 _ (S2.less (fun q hq => List.mem_of_mem_drop hq) (S2.nd.sublist ((List.drop_sublist 1 O3).map _))) (e1.trans e2) r2 p2)
theorem kinds_one {G : Hp} {xs : List V} {k : Kd} (h : Kinds G xs [k]) : ∃ v, xs = [v] ∧ KdAt G v k := kinds1 h

/-! ### all, int, repr, min, max -/
theorem dps_bools {G : Hp} : ∀ {bs : List Bool} {vs : List V}, DPs G vs (bs.map PyData.bool) → vs = bs.map V.bl
  | [], _, h => by cases h; rfl
  | b :: bs, _, h => by
    cases h with
    | cons r t => rw [dp_bl r, dps_bools t]; rfl
theorem dps_ints {G : Hp} : ∀ {bs : List Int} {vs : List V}, DPs G vs (bs.map PyData.int) → vs = bs.map V.int
  | [], _, h => by cases h; rfl
  | b :: bs, _, h => by
    cases h with
    | cons r t => rw [dp_int r, dps_ints t]; rfl
theorem dps_strs {G : Hp} : ∀ {bs : List Str} {vs : List V}, DPs G vs (bs.map PyData.str) → vs = bs.map V.str
  | [], _, h => by cases h; rfl
  | b :: bs, _, h => by
    cases h with
    | cons r t => rw [dp_str r, dps_strs t]; rfl
theorem ob_ol {G0 H0 G H : Hp} {σ : L2.St} {q : Addr} {ds : List D} (S : Sta G0 H0 G H σ ss ((q, .ol ds) :: O)) : ∃ vs, H q = some (.lst vs) ∧ DPs G vs ds := (S.ob _ List.mem_cons_self).1
theorem ev_all {ds : List D} {bs : List Bool} {x : Str} {p : Pos} (ha : EN X R e ss O (.ol ds) O1) (hb : ds = bs.map PyData.bool) (hc : X.calm = true) (hm : X.mg "all" = none) (hx : x = "all" := by rfl) (hg : Gl X x := by rfl) (he : starEach [e] X.env = (false, eval e X.env) :: starEach [] X.env := by exact star_ne rfl) :
    EV X R (.Call (.Name x p) [e] [] pos) ss O (.dat (.bool (bs.all id))) O1 := by
  subst hx hb
  refine ej_b1N (cr_all hc) ha (fun q => ?_) hm (by decide +kernel) hg (by decide) (by decide) he
  intro G0 H0 G H σ ss xs S h1 Q w
  obtain ⟨v, rfl, r⟩ := kinds1 h1
  have : v = .ref q := r
  subst this
  obtain ⟨vs, hv, rv⟩ := ob_ol S
  rw [dps_bools rv] at hv
  exact ⟨q, bs, rfl, .of hv, w.d S (Ex.refl G) (DP.bl _) ⟨rfl, rfl⟩⟩
theorem ev_intB {b : Bool} {x : Str} {p : Pos} (ha : EV X R e ss O (.dat (.bool b)) O1) (hm : X.mg "int" = none) (hx : x = "int" := by rfl) (hg : Gl X x := by rfl) (he : starEach [e] X.env = (false, eval e X.env) :: starEach [] X.env := by exact star_ne rfl) :
    EV X R (.Call (.Name x p) [e] [] pos) ss O (.dat (.int (if b then 1 else 0))) O1 := by
  subst hx
  refine ej_t1 call_int1 ha ?_ hm boot_int hg (by decide) (by decide) he
  intro G0 H0 G H σ ss xs S h1 Q w
  obtain ⟨v, rfl, r⟩ := kinds1 h1
  exact .inr ⟨b, by rw [dp_bl r], w.d S (Ex.refl G) (DP.int _) ⟨rfl, rfl⟩⟩
theorem ev_reprB {b : Bool} {x : Str} {p : Pos} (ha : EV X R e ss O (.dat (.bool b)) O1) (hm : X.mg "repr" = none) (hx : x = "repr" := by rfl) (hg : Gl X x := by rfl) (he : starEach [e] X.env = (false, eval e X.env) :: starEach [] X.env := by exact star_ne rfl) :
    EV X R (.Call (.Name x p) [e] [] pos) ss O (.dat (.str (if b then "True" else "False"))) O1 := by
  subst hx
  refine ej_b1 call_repr_bl ha ?_ hm (by decide +kernel) hg (by decide) (by decide) he
  intro G0 H0 G H σ ss xs S h1 Q w
  obtain ⟨v, rfl, r⟩ := kinds1 h1
  exact ⟨b, by rw [dp_bl r], w.d S (Ex.refl G) (DP.str _) ⟨rfl, rfl⟩⟩
theorem ev_max2 {i j : Int} {x : Str} {p : Pos} {f : Expr} (ha : EV X R e ss O (.dat (.int i)) O1) (hb : EV X R f ss O1 (.dat (.int j)) O2) (hc : X.calm = true) (hm : X.mg "max" = none) (hx : x = "max" := by rfl) (hg : Gl X x := by rfl) (he : starEach [e, f] X.env = (false, eval e X.env) :: starEach [f] X.env := by exact star_ne rfl) (he2 : starEach [f] X.env = (false, eval f X.env) :: starEach [] X.env := by exact star_ne rfl) (hpl : (backTo pos (starEach [f] X.env)).any (·.1) = false := by rfl) :
    EV X R (.Call (.Name x p) [e, f] [] pos) ss O (.dat (.int (if j > i then j else i))) O2 := by
  subst hx
  refine ej_b2 (call_max2 hc) ha hb ?_ hm boot_max hg (by decide) (by decide) he he2 hpl
  intro G0 H0 G H σ ss xs S h1 Q w
  obtain ⟨u, v, rfl, r, r'⟩ := kinds2 h1
  exact ⟨i, j, by rw [dp_int r, dp_int r'], w.d S (Ex.refl G) (DP.int _) ⟨rfl, rfl⟩⟩
theorem ev_min2 {i j : Int} {x : Str} {p : Pos} {f : Expr} (ha : EV X R e ss O (.dat (.int i)) O1) (hb : EV X R f ss O1 (.dat (.int j)) O2) (hc : X.calm = true) (hm : X.mg "min" = none) (hx : x = "min" := by rfl) (hg : Gl X x := by rfl) (he : starEach [e, f] X.env = (false, eval e X.env) :: starEach [f] X.env := by exact star_ne rfl) (he2 : starEach [f] X.env = (false, eval f X.env) :: starEach [] X.env := by exact star_ne rfl) (hpl : (backTo pos (starEach [f] X.env)).any (·.1) = false := by rfl) :
    EV X R (.Call (.Name x p) [e, f] [] pos) ss O (.dat (.int (if j < i then j else i))) O2 := by
  subst hx
  refine ej_b2 (call_min2 hc) ha hb ?_ hm boot_min hg (by decide) (by decide) he he2 hpl
  intro G0 H0 G H σ ss xs S h1 Q w
  obtain ⟨u, v, rfl, r, r'⟩ := kinds2 h1
  exact ⟨i, j, by rw [dp_int r, dp_int r'], w.d S (Ex.refl G) (DP.int _) ⟨rfl, rfl⟩⟩

/-! ### list, tuple -/
theorem en_listOf {d : D} {ds : List D} {x : Str} {p : Pos} (ha : EV X R e ss O (.dat d) O1) (hd : d = .list ds ∨ d = .tuple ds) (hm : X.mg "list" = none) (hx : x = "list" := by rfl) (hg : Gl X x := by rfl) (he : starEach [e] X.env = (false, eval e X.env) :: starEach [] X.env := by exact star_ne rfl) :
    EN X R (.Call (.Name x p) [e] [] pos) ss O (.ol ds) O1 := by
  subst hx
  refine ej_t1 call_list_of ha ?_ hm boot_list hg (by decide) (by decide) he
  intro G0 H0 G H σ ss xs S h1 Q w
  obtain ⟨v, rfl, r⟩ := kinds1 h1
  rcases hd with rfl | rfl
  · obtain ⟨a, vs, rfl, g1, rv⟩ := dp_lst r
    exact ⟨a, vs, rfl, .inl (.of (S.gh _ _ g1)), fun l hl => w.v (S.new hl (b := .ol ds) ⟨vs, upd_same, rv⟩) (Ex.refl G) ⟨l, rfl, rfl⟩⟩
  · obtain ⟨a, vs, rfl, g1, rv⟩ := dp_tup r
    exact ⟨a, vs, rfl, .inr (g1.sq S.gh), fun l hl => w.v (S.new hl (b := .ol ds) ⟨vs, upd_same, rv⟩) (Ex.refl G) ⟨l, rfl, rfl⟩⟩
theorem ev_tupOf {d : D} {ds : List D} {x : Str} {p : Pos} (ha : EV X R e ss O (.dat d) O1) (hd : d = .list ds ∨ d = .tuple ds) (hm : X.mg "tuple" = none) (hx : x = "tuple" := by rfl) (hg : Gl X x := by rfl) (he : starEach [e] X.env = (false, eval e X.env) :: starEach [] X.env := by exact star_ne rfl) :
    EV X R (.Call (.Name x p) [e] [] pos) ss O (.dat (.tuple ds)) O1 := by
  subst hx
  refine ej_t1 call_tuple_ofP ha ?_ hm boot_tuple hg (by decide) (by decide) he
  intro G0 H0 G H σ ss xs S h1 Q w
  obtain ⟨v, rfl, r⟩ := kinds1 h1
  rcases hd with rfl | rfl
  · obtain ⟨a, vs, rfl, g1, rv⟩ := dp_lst r
    refine ⟨a, vs, rfl, .inl ⟨.of (S.gh _ _ g1), fun l o hl ho => ?_⟩⟩
    have eg : Ex G (upd G l (.frz o (.tup vs))) := Ex.new (S.free hl)
    exact w.d (S.data hl _) eg (DP.tup (PTu.new ho) (dpAll_ex eg rv)) ⟨rfl, rfl⟩
  · obtain ⟨a, vs, rfl, g1, rv⟩ := dp_tup r
    exact ⟨a, vs, rfl, .inr ⟨g1.sq S.gh, w.d S (Ex.refl G) (DP.tup g1 rv) ⟨rfl, rfl⟩⟩⟩
theorem ev_tupN {ds : List D} {x : Str} {p : Pos} (ha : EN X R e ss O (.ol ds) O1) (hm : X.mg "tuple" = none) (hx : x = "tuple" := by rfl) (hg : Gl X x := by rfl) (he : starEach [e] X.env = (false, eval e X.env) :: starEach [] X.env := by exact star_ne rfl) :
    EV X R (.Call (.Name x p) [e] [] pos) ss O (.dat (.tuple ds)) O1 := ev_tupOf ha.frz (.inl rfl) hm hx hg he

/-! ### join -/
theorem joins_nil : ∀ xs : List (List Nat), Str.join Str.empty (xs.map sL) = sL xs.flatten
  | [] => rfl
  | [x] => by simp [Str.join]
  | x :: y :: r => by
    show sL x ++ Str.empty ++ Str.join Str.empty ((y :: r).map sL) = _
    rw [joins_nil (y :: r)]
    have : (Str.empty : Str) = sL [] := rfl
    rw [this, sL_app, sL_app, List.flatten_cons (l := x), show x ++ [] = x from List.append_nil x]
theorem sum_lens (xs : List (List Nat)) : ((xs.map sL).map (·.length)).sum = xs.flatten.length := by
  induction xs with
  | nil => rfl
  | cons x xs ih => rw [List.map_cons, List.map_cons, List.sum_cons, ih, List.flatten_cons, List.length_append, sL_len]
theorem ev_join {s : Str} {ds : List D} {xs : List (List Nat)} {apos : Pos} {f : Expr} (ha : EV X R a ss O (.dat (.str s)) O1) (hs : s = sL []) (hf : EV X R f ss O1 (.dat (.list ds)) O2) (hd : ds = xs.map dS) (hz : xs.flatten.length ≤ 16777216)
    (he : starEach [f] X.env = [(false, eval f X.env)] := by exact star_ne rfl) (hbase : attributeBase a "join" X.env (eval a X.env) = eval a X.env := by rfl) (hline : (apos.endLine == pos.line) = true := by rfl) : EV X R (.Call (.Attribute a "join" apos) [f] [] pos) ss O (.dat (dS xs.flatten)) O2 := fun G0 H0 G H σ S L Q q =>
  wE_of (pe_join peW peW he hbase hline) (ha G0 H0 G H σ S L _ fun G1 H1 v k1 O3 S1 e1 r1 ⟨h1, h2⟩ => by
    subst h1 h2 hs hd
    refine ⟨⟨_, dp_str r1⟩, hf G0 H0 G1 H1 σ S1 L _ fun G2 H2 v2 k2 O4 S2 e2 r2 ⟨h3, h4⟩ => ?_⟩
    subst h3 h4
    obtain ⟨p, vs, rfl, g1, rv⟩ := dp_lst r2
    have ev := dps_strs (bs := xs.map sL) (by rw [List.map_map]; exact rv)
    subst ev
    refine ⟨sL [], p, xs.map sL, dp_str r1, rfl, .inl (.of (S2.gh _ _ g1)), ?_, ?_⟩
    · rw [sum_lens]
      show _ + _ * 0 ≤ _
      omega
    · rw [TL.join_eq]
      have e := joins_nil xs
      rw [show (sL [] : Str) = Str.empty from rfl, e]
      exact q.d S2 (e1.trans e2) (DP.str _) ⟨rfl, rfl⟩)

/-! ### more operators -/
theorem ev_isB {b1 b2 : Bool} (ha : EV X R a ss O (.dat (.bool b1)) O1) (hb : EV X R b ss O1 (.dat (.bool b2)) O2) (hm : behindInMarks .Is b = false := by rfl) : EV X R (.Compare a [.Is] [b] pos) ss O (.dat (.bool (decide (b1 = b2)))) O2 :=
  ev_cmp op_is_bl ha hb (fun G0 H0 G H σ ss x y S h1 h2 Q q => ⟨b1, b2, dp_bl h1, dp_bl h2, q.d S (Ex.refl G) (DP.bl _) ⟨rfl, rfl⟩⟩) hm
theorem ev_isnB {b1 b2 : Bool} (ha : EV X R a ss O (.dat (.bool b1)) O1) (hb : EV X R b ss O1 (.dat (.bool b2)) O2) (hm : behindInMarks .IsNot b = false := by rfl) : EV X R (.Compare a [.IsNot] [b] pos) ss O (.dat (.bool (!decide (b1 = b2)))) O2 :=
  ev_cmp op_isnot_bl ha hb (fun G0 H0 G H σ ss x y S h1 h2 Q q => ⟨b1, b2, dp_bl h1, dp_bl h2, q.d S (Ex.refl G) (DP.bl _) ⟨rfl, rfl⟩⟩) hm
theorem ev_smul {l : List Nat} {n : Nat} (ha : EV X R a ss O (.dat (dS l)) O1) (hb : EV X R b ss O1 (.dat (.int n)) O2) (hl : l.length * n ≤ 16777216) (hn : n ≤ 16777216) : EV X R (.BinOp a .Mult b pos) ss O (.dat (dS (List.replicate n l).flatten)) O2 :=
  ev_op op_smul ha hb fun G0 H0 G H σ ss x y S h1 h2 Q q => ⟨l, n, dp_str h1, dp_int h2, hl, hn, q.d S (Ex.refl G) (DP.str _) ⟨rfl, rfl⟩⟩
theorem ev_tmul {ds : List D} {n : Nat} (ha : EV X R a ss O (.dat (.tuple ds)) O1) (hb : EV X R b ss O1 (.dat (.int n)) O2) (h0 : ds ≠ []) (h2 : 2 ≤ n) (hn : n ≤ 1000) (hl : ds.length ≤ 1000) : EV X R (.BinOp a .Mult b pos) ss O (.dat (.tuple (List.replicate n ds).flatten)) O2 :=
  ev_op op_repP ha hb fun G0 H0 G H σ ss x y S h1 h2 Q q => by
    obtain ⟨p1, xs, e1, g1, r1⟩ := dp_tup h1
    refine ⟨p1, n, xs, e1, dp_int h2, g1.sq S.gh, fun z => h0 ?_, by omega, by omega, by rw [dps_len r1]; exact hl, fun p o hp ho => ?_⟩
    · rw [z] at r1
      cases r1
      rfl
    · have eg : Ex G (upd G p (.frz o (.tup (List.replicate n xs).flatten))) := Ex.new (S.free hp)
      exact q.d (S.data hp _) eg (DP.tup (PTu.new ho) (dpAll_ex eg (dps_rep r1 n))) ⟨rfl, rfl⟩
theorem dps_rev {G : Hp} {xs : List V} {ds : List D} (h : DPs G xs ds) : DPs G xs.reverse ds.reverse := by
  induction ds generalizing xs with
  | nil => cases h; exact .nil
  | cons d ds ih =>
    cases h with
    | cons r t =>
      rw [List.reverse_cons, List.reverse_cons]
      exact dpAll_app (ih t) (.cons r .nil)
theorem ev_revT {ds : List D} {k : Nat} {p1 p2 p3 : Pos} (ha : EV X R e ss O (.dat (.tuple ds)) O1) : EV X R (.Subscript e (.Slice none none (some (.UnaryOp .USub (.Constant (.int 1) k p1) p2)) p3) pos) ss O (.dat (.tuple ds.reverse)) O1 := fun G0 H0 G H σ S L Q q =>
  wE_of (pe_revT peW) (ha G0 H0 G H σ S L _ fun G1 H1 v k1 O3 S1 e1 r1 ⟨h1, h2⟩ => by
    subst h1 h2
    obtain ⟨a, xs, rfl, g1, rv⟩ := dp_tup r1
    refine ⟨a, xs, rfl, g1.sq S1.gh, fun p o hp ho => ?_⟩
    have eg : Ex G1 (upd G1 p (.frz o (.tup xs.reverse))) := Ex.new (S1.free hp)
    exact q.d (S1.data hp _) (e1.trans eg) (DP.tup (PTu.new ho) (dpAll_ex eg (dps_rev rv))) ⟨rfl, rfl⟩)
theorem ev_revL {ds : List D} {k : Nat} {p1 p2 p3 : Pos} (ha : EV X R e ss O (.dat (.list ds)) O1) : EV X R (.Subscript e (.Slice none none (some (.UnaryOp .USub (.Constant (.int 1) k p1) p2)) p3) pos) ss O (.dat (.list ds.reverse)) O1 := fun G0 H0 G H σ S L Q q =>
  wE_of (pe_revL peW) (ha G0 H0 G H σ S L _ fun G1 H1 v k1 O3 S1 e1 r1 ⟨h1, h2⟩ => by
    subst h1 h2
    obtain ⟨a, xs, rfl, g1, rv⟩ := dp_lst r1
    refine ⟨a, xs, rfl, .of (S1.gh _ _ g1), fun p hp => ?_⟩
    have eg : Ex G1 (upd G1 p (.lst xs.reverse)) := Ex.new (S1.free hp)
    exact q.d (S1.data hp _) (e1.trans eg) (DP.lst upd_same (dpAll_ex eg (dps_rev rv))) ⟨rfl, rfl⟩)
/-- a <= b <= c, the three pure -/
theorem ev_chainI {i j l : Int} (ha : EV X R a ss O (.dat (.int i)) O) (hb : EV X R b ss O (.dat (.int j)) O) (hc : EV X R c ss O (.dat (.int l)) O) (hm : lastMarks [.LtE, .LtE] [b, c] = false := by with_unfolding_all rfl) : EV X R (.Compare a [.LtE, .LtE] [b, c] pos) ss O (.dat (.bool (decide (i ≤ j) && decide (j ≤ l)))) O := fun G0 H0 G H σ S L Q q =>
  wE_of (pe_chain op_le op_le peW peW peW hm) (ha G0 H0 G H σ S L _ fun G1 H1 v k1 O1 S1 e1 r1 ⟨h1, h2⟩ => by
    subst h1 h2
    refine hb G0 H0 G1 H1 σ S1 L _ fun G2 H2 v2 k2 O2 S2 e2 r2 ⟨h3, h4⟩ => ?_
    subst h3 h4
    refine ⟨i, j, dp_int (dp_ex e2 r1), dp_int r2, _, rfl, ?_⟩
    cases hij : decide (i ≤ j) with
    | true =>
      rw [if_pos rfl]
      refine hc G0 H0 G2 H2 σ S2 L _ fun G3 H3 v3 k3 O3 S3 e3 r3 ⟨h5, h6⟩ => ?_
      subst h5 h6
      exact ⟨j, l, dp_int (dp_ex e3 r2), dp_int r3, q.d S3 ((e1.trans e2).trans e3) (DP.bl _) ⟨by rw [hij, Bool.true_and], rfl⟩⟩
    | false =>
      rw [if_neg Bool.false_ne_true]
      exact q.d S2 (e1.trans e2) (DP.bl _) ⟨by rw [hij, Bool.false_and], rfl⟩)
theorem ev_chainS {i j l : List Nat} (ha : EV X R a ss O (.dat (dS i)) O) (hb : EV X R b ss O (.dat (dS j)) O) (hc : EV X R c ss O (.dat (dS l)) O) (hm : lastMarks [.LtE, .LtE] [b, c] = false := by with_unfolding_all rfl) : EV X R (.Compare a [.LtE, .LtE] [b, c] pos) ss O (.dat (.bool (!decide (j < i) && !decide (l < j)))) O := fun G0 H0 G H σ S L Q q =>
  wE_of (pe_chain op_le_str op_le_str peW peW peW hm) (ha G0 H0 G H σ S L _ fun G1 H1 v k1 O1 S1 e1 r1 ⟨h1, h2⟩ => by
    subst h1 h2
    refine hb G0 H0 G1 H1 σ S1 L _ fun G2 H2 v2 k2 O2 S2 e2 r2 ⟨h3, h4⟩ => ?_
    subst h3 h4
    refine ⟨sL i, sL j, dp_str (dp_ex e2 r1), dp_str r2, _, rfl, ?_⟩
    have e5 : (!decide ((sL j).cps.toList < (sL i).cps.toList)) = !decide (j < i) := by simp
    rw [e5]
    cases hij : (!decide (j < i)) with
    | true =>
      rw [if_pos rfl]
      refine hc G0 H0 G2 H2 σ S2 L _ fun G3 H3 v3 k3 O3 S3 e3 r3 ⟨h5, h6⟩ => ?_
      subst h5 h6
      exact ⟨sL j, sL l, dp_str (dp_ex e3 r2), dp_str r3, q.d S3 ((e1.trans e2).trans e3) (DP.bl _) ⟨by rw [hij, Bool.true_and], rfl⟩⟩
    | false =>
      rw [if_neg Bool.false_ne_true]
      exact q.d S2 (e1.trans e2) (DP.bl _) ⟨by rw [hij, Bool.false_and], rfl⟩)

/-! ### owned lists -/
theorem sta_olput {G0 H0 G H : Hp} {σ : L2.St} {j : Nat} {p : Addr} {ds ds' : List D} {vs : List V} (S : Sta G0 H0 G H σ ss O) (hj : O[j]? = some (p, .ol ds)) (r : DPs G vs ds') : Sta G0 H0 G (upd H p (.lst vs)) σ ss (O.set j (p, .ol ds')) := S.put hj ⟨vs, upd_same, r⟩
/-- xs.append(e) -/
theorem ev_append (j : Nat) {p : Addr} {ds : List D} {d : D} {apos : Pos} {f : Expr} (ha : EV X R a ss O (.val (.ref p)) O1) (hf : EV X R f ss O1 (.dat d) O2) (hj1 : O1[j]? = some (p, .ol ds)) (hj : O2[j]? = some (p, .ol ds)) (hl : ds.length < 16777216)
    (hbase : attributeBase a "append" X.env (eval a X.env) = eval a X.env := by rfl)
    (hfew : ((backTo pos (starEach [f] X.env)).all (fun x => !x.1) && (backToKw pos (keywordEach [] X.env)).all (fun x => x.1.isSome) && decide ([f].length + ([] : List Keyword).length + (if ([] : List Keyword).isEmpty then 0 else 1) < 30)) = true := by rfl)
    (hline : (apos.endLine == pos.line) = true := by rfl) (hs : starEach [f] X.env = (false, eval f X.env) :: starEach [] X.env := by exact star_ne rfl) : EV X R (.Call (.Attribute a "append" apos) [f] [] pos) ss O (.dat .none) (O2.set j (p, .ol (ds ++ [d]))) := fun G0 H0 G H σ S L Q q =>
  wE_of (pe_bm PySem.F.plainAttrs_list PySem.F.slot_list_append PySem.F.type_list_append mt_append peW (pa_cons peW pa_nil hs) hbase hfew hline hs) (ha G0 H0 G H σ S L _ fun G1 H1 v k1 O3 S1 e1 r1 ⟨h1, h2⟩ => by
    subst h1 h2
    have : v = .ref p := r1
    subst this
    obtain ⟨⟨vs, hv, rv⟩, _, _⟩ := S1.ob _ (List.mem_of_getElem? hj1)
    refine ⟨.inl ⟨rfl, vs, .of hv⟩, ?_⟩
    refine hf G0 H0 G1 H1 σ S1 L _ fun G2 H2 v2 k2 O4 S2 e2 r2 ⟨h3, h4⟩ => ?_
    subst h3 h4
    obtain ⟨⟨vs, hv, rv⟩, _, _⟩ := S2.ob _ (List.mem_of_getElem? hj)
    exact ⟨p, vs, v2, rfl, rfl, hv, by rw [dps_len rv, sizeLine_eq]; exact hl, q.d (sta_olput S2 hj (dpAll_app rv (.cons r2 .nil))) (e1.trans e2) DP.non ⟨rfl, rfl⟩⟩)
/-- xs[i] = e -/
theorem s1_setIx (j : Nat) {p : Addr} {ds : List D} {i : Int} {n : Nat} {d : D} {ppos : Pos} {f : Expr} {D' : DE} (hv : EV X R e ss O (.dat d) O1) (ha : EV X R a ss O1 (.val (.ref p)) O2) (hi : EV X R f ss O2 (.dat (.int i)) O3) (hj : O3[j]? = some (p, .ol ds)) (hx : ixN ds.length i = some n) (h : D'.nx ss (O3.set j (p, .ol (ds.set n d))))
    (hs : swapsWithSole [.Subscript a f ppos] e pos.line X.env = pure false := by rfl) (hw : swappedStores [.Subscript a f ppos] e X.env = pure none := by rfl) (h1 : (assignEach [.Subscript a f ppos] X.env).map (·.2) = [assign (.Subscript a f ppos) X.env] := by rfl)
    (hg : ∀ v, assign (.Subscript a f ppos) X.env v = (do
      let ov ← holding [v] (eval a X.env)
      let iv ← holding [v, ov] (eval f X.env)
      standAt ppos
      holding [v, ov, iv] (setItem ov iv v)
      release [v, ov, iv] []) := by intro _; rfl) : S1 X R (.Assign [.Subscript a f ppos] e pos) ss O D' := fun G0 H0 G H σ S L E s =>
  wS_of (ps_asg peW (pg_sub peW peW L2.set_list hg) hs hw h1) (hv G0 H0 G H σ S L _ fun G1 H1 v k1 O4 S1 e1 r1 ⟨h1, h2⟩ => by
    subst h1 h2
    refine ha G0 H0 G1 H1 σ S1 L _ fun G2 H2 v2 k2 O5 S2 e2 r2 ⟨h3, h4⟩ => ?_
    subst h3 h4
    refine hi G0 H0 G2 H2 σ S2 L _ fun G3 H3 v3 k3 O6 S3 e3 r3 ⟨h5, h6⟩ => ?_
    subst h5 h6
    have : v2 = .ref p := r2
    subst this
    obtain ⟨⟨vs, hv, rv⟩, _, _⟩ := S3.ob _ (List.mem_of_getElem? hj)
    refine ⟨p, vs, i, n, rfl, dp_int r3, hv, by rw [dps_len rv]; exact hx, ?_⟩
    refine s.nx G3 _ σ ss _ (sta_olput S3 hj ?_) ((e1.trans e2).trans e3) h
    exact dpAll_of (paired_set (dp_ex (e2.trans e3) r1) n (dpAll_to rv)))
end
end Dl
end
section
/-! sorted lists of texts -/
namespace Dl
open PySem PySem.Spec PyProof.Rows L2
open Evl (Ex)

theorem perm_uniq {α : Type} {le : α → α → Prop} (anti : ∀ a b, le a b → le b a → a = b) : ∀ {l1 l2 : List α}, l1.Perm l2 → l1.Pairwise le → l2.Pairwise le → l1 = l2
  | [], l2, p, _, _ => (List.nil_perm.mp p).symm
  | a :: l1, [], p, _, _ => absurd p.length_eq (by simp)
  | a :: l1, b :: l2, p, h1, h2 => by
    have e : a = b := by
      have ha : a ∈ b :: l2 := p.mem_iff.mp List.mem_cons_self
      have hb : b ∈ a :: l1 := p.mem_iff.mpr List.mem_cons_self
      rcases List.mem_cons.mp ha with e | ha
      · exact e
      · rcases List.mem_cons.mp hb with e | hb
        · exact e.symm
        · exact anti a b ((List.pairwise_cons.mp h1).1 b hb) ((List.pairwise_cons.mp h2).1 a ha)
    subst e
    rw [perm_uniq anti ((List.perm_cons a).mp p) (List.pairwise_cons.mp h1).2 (List.pairwise_cons.mp h2).2]
abbrev Tx := List Nat
theorem tx_anti (a b : Tx) (h1 : ¬ b < a) (h2 : ¬ a < b) : a = b := List.le_antisymm h1 h2
theorem tx_trans {a b c : Tx} (h1 : ¬ b < a) (h2 : ¬ c < b) : ¬ c < a := List.le_trans (l₁ := a) (l₂ := b) (l₃ := c) h1 h2
theorem tx_total (a b : Tx) : ¬ b < a ∨ ¬ a < b := List.le_total a b
theorem tx_irr (a : Tx) : ¬ a < a := List.lt_irrefl a
theorem tx_lt {a b c : Tx} (h1 : a < b) (h2 : b < c) : a < c := List.lt_trans h1 h2
/-- texts in order -/
def srtT (xs : List Tx) : List Tx := xs.mergeSort fun a b => !decide (b < a)
theorem srtT_perm (xs : List Tx) : (srtT xs).Perm xs := List.mergeSort_perm xs _
theorem srtT_sorted (xs : List Tx) : (srtT xs).Pairwise fun a b => ¬ b < a := by
  have h := List.pairwise_mergeSort (le := fun a b : Tx => !decide (b < a)) (fun a b c h1 h2 => by
    simp only [Bool.not_eq_true', decide_eq_false_iff_not] at *
    exact tx_trans h1 h2) (fun a b => by
    simp only [Bool.or_eq_true, Bool.not_eq_true', decide_eq_false_iff_not]
    exact tx_total a b) xs
  exact h.imp fun h => by simpa using h
/-- distinct texts in order -/
def insT (x : Tx) : List Tx → List Tx
  | [] => [x]
  | y :: r => if x < y then x :: y :: r else if y < x then y :: insT x r else y :: r
def setT (xs : List Tx) : List Tx := xs.foldr insT []
theorem insT_mem (x z : Tx) : ∀ l, z ∈ insT x l ↔ z = x ∨ z ∈ l
  | [] => by simp [insT]
  | y :: r => by
    unfold insT
    split
    · simp
    · split
      · rw [List.mem_cons, insT_mem x z r, List.mem_cons]
        constructor <;> (rintro (h | h | h) <;> simp [h])
      · have : x = y := tx_anti x y ‹_› ‹_›
        subst this
        simp
theorem insT_sorted (x : Tx) : ∀ l, l.Pairwise (· < ·) → (insT x l).Pairwise (· < ·)
  | [], _ => by simp [insT]
  | y :: r, h => by
    obtain ⟨h1, h2⟩ := List.pairwise_cons.mp h
    unfold insT
    split
    · refine List.pairwise_cons.mpr ⟨fun z hz => ?_, h⟩
      rcases List.mem_cons.mp hz with rfl | hz
      · assumption
      · exact tx_lt ‹_› (h1 z hz)
    · split
      · refine List.pairwise_cons.mpr ⟨fun z hz => ?_, insT_sorted x r h2⟩
        rcases (insT_mem x z r).mp hz with rfl | hz
        · assumption
        · exact h1 z hz
      · exact h
theorem setT_mem (xs : List Tx) (z : Tx) : z ∈ setT xs ↔ z ∈ xs := by
  induction xs with
  | nil => simp [setT]
  | cons x xs ih =>
    show z ∈ insT x (setT xs) ↔ _
    rw [insT_mem, ih, List.mem_cons]
theorem setT_sorted (xs : List Tx) : (setT xs).Pairwise (· < ·) := by
  induction xs with
  | nil => exact .nil
  | cons x xs ih => exact insT_sorted x _ ih
theorem insT_len (x : Tx) : ∀ l, (insT x l).length ≤ l.length + 1
  | [] => by simp [insT]
  | y :: r => by
    unfold insT
    split
    · simp
    · split
      · have := insT_len x r
        simp only [List.length_cons]
        omega
      · simp
theorem setT_len (xs : List Tx) : (setT xs).length ≤ xs.length := by
  induction xs with
  | nil => simp [setT]
  | cons x xs ih =>
    have := insT_len x (setT xs)
    show (insT x (setT xs)).length ≤ _
    rw [List.length_cons]
    omega
/-- strictly rising lists with the same members -/
theorem lt_uniq : ∀ {l1 l2 : List Tx}, l1.Pairwise (· < ·) → l2.Pairwise (· < ·) → (∀ z, z ∈ l1 ↔ z ∈ l2) → l1 = l2
  | [], [], _, _, _ => rfl
  | [], b :: l2, _, _, h => absurd ((h b).mpr List.mem_cons_self) (by simp)
  | a :: l1, [], _, _, h => absurd ((h a).mp List.mem_cons_self) (by simp)
  | a :: l1, b :: l2, h1, h2, h => by
    obtain ⟨p1, q1⟩ := List.pairwise_cons.mp h1
    obtain ⟨p2, q2⟩ := List.pairwise_cons.mp h2
    have e : a = b := by
      rcases List.mem_cons.mp ((h a).mp List.mem_cons_self) with e | ha
      · exact e
      · rcases List.mem_cons.mp ((h b).mpr List.mem_cons_self) with e | hb
        · exact e.symm
        · exact absurd (tx_lt (p1 b hb) (p2 a ha)) (tx_irr a)
    subst e
    refine congrArg (a :: ·) (lt_uniq q1 q2 fun z => ?_)
    constructor
    · intro hz
      rcases List.mem_cons.mp ((h z).mp (List.mem_cons_of_mem _ hz)) with e | hz'
      · exact absurd (e ▸ p1 z hz) (tx_irr _)
      · exact hz'
    · intro hz
      rcases List.mem_cons.mp ((h z).mpr (List.mem_cons_of_mem _ hz)) with e | hz'
      · exact absurd (e ▸ p2 z hz) (tx_irr _)
      · exact hz'
/-! ### from sortedS -/
theorem rising_pw : ∀ (p : Str) (l : List Str), risingS p l = true → (p :: l).Pairwise fun a b => ¬ b.cps.toList < a.cps.toList
  | p, [], _ => by simp
  | p, x :: r, h => by
    have h : (!ltCps x.cps.toList p.cps.toList && risingS x r) = true := h
    rw [Bool.and_eq_true, Bool.not_eq_true', ltCps_eq, decide_eq_false_iff_not] at h
    have ih := rising_pw x r h.2
    refine List.pairwise_cons.mpr ⟨fun z hz => ?_, ih⟩
    rcases List.mem_cons.mp hz with rfl | hz
    · exact h.1
    · exact tx_trans h.1 ((List.pairwise_cons.mp ih).1 z hz)
theorem sortedS_pw {l : List Str} (h : sortedS l = true) : l.Pairwise fun a b => ¬ b.cps.toList < a.cps.toList := by
  cases l with
  | nil => exact .nil
  | cons x r => exact rising_pw x r h
theorem strs_back (ys : List Str) : ys = (ys.map fun y => y.cps.toList).map sL := by
  rw [List.map_map]
  exact (List.map_id ys).symm.trans (List.map_congr_left fun y _ => by cases y; simp)
theorem sorted_is {ys : List Str} {xs : List Tx} (p : ys.Perm (xs.map sL)) (h : sortedS ys = true) : ys = (srtT xs).map sL := by
  have e : (ys.map fun y => y.cps.toList) = srtT xs := by
    refine perm_uniq (le := fun a b : Tx => ¬ b < a) tx_anti ?_ ?_ (srtT_sorted xs)
    · have q := p.map fun y => y.cps.toList
      rw [List.map_map] at q
      have : ((fun y : Str => y.cps.toList) ∘ sL) = id := by funext l; simp
      rw [this, List.map_id] at q
      exact q.trans (srtT_perm xs).symm
    · rw [List.pairwise_map]
      exact sortedS_pw h
  rw [← e]
  exact strs_back ys
theorem set_is {ys : List Str} {xs : List Tx} (h : sortedS ys = true) (nd : ys.Nodup) (hm : ∀ k, k ∈ ys ↔ decide (k ∈ xs.map sL) = true) : ys = (setT xs).map sL := by
  have e : (ys.map fun y => y.cps.toList) = setT xs := by
    refine lt_uniq ?_ (setT_sorted xs) fun z => ?_
    · rw [List.pairwise_map]
      have h1 := sortedS_pw h
      refine (h1.and nd).imp fun {a b} ⟨h1, h2⟩ => ?_
      rcases Classical.em (a.cps.toList < b.cps.toList) with c | c
      · exact c
      · exfalso
        have := tx_anti _ _ h1 c
        refine h2 ?_
        cases a; cases b
        simpa using this
    · rw [setT_mem]
      have e1 : z ∈ (ys.map fun y => y.cps.toList) ↔ sL z ∈ ys := by
        rw [List.mem_map]
        constructor
        · rintro ⟨y, hy, rfl⟩
          cases y
          simpa using hy
        · intro hy
          exact ⟨sL z, hy, by simp⟩
      rw [e1, hm, decide_eq_true_eq, List.mem_map]
      exact ⟨fun ⟨y, hy, e⟩ => by rw [← sL_inj e]; exact hy, fun hz => ⟨z, hz, rfl⟩⟩
  rw [← e]
  exact strs_back ys
section
variable {X : Cx} {R : Addr → Prop} {e a b c : Expr} {es : List Expr} {ss : List Kd} {O O1 O2 O3 O' : Store} {k ka kb : Kd} {ks : List Kd} {Φ Ψ : Kd → Store → Prop} {pos : Pos}
theorem strs_dps {G : Hp} : ∀ ys : List Str, DPs G (ys.map V.str) (ys.map PyData.str)
  | [] => .nil
  | y :: ys => .cons (.str y) (strs_dps ys)
/-- sorted(a text) -/
theorem en_sortS {l : List Nat} {x : Str} {p : Pos} (ha : EV X R e ss O (.dat (dS l)) O1) (hl : l.length ≤ 16777216) (hc : X.calm = true) (hm : X.mg "sorted" = none) (hx : x = "sorted" := by rfl) (hg : Gl X x := by rfl) (he : starEach [e] X.env = (false, eval e X.env) :: starEach [] X.env := by exact star_ne rfl) :
    EN X R (.Call (.Name x p) [e] [] pos) ss O (.ol ((srtT (l.map fun c => [c])).map dS)) O1 := by
  subst hx
  refine ej_b1 (call_sortedS1 hc) ha ?_ hm (by decide +kernel) hg (by decide) (by decide) he
  intro G0 H0 G H σ ss xs S h1 Q w
  obtain ⟨v, rfl, r⟩ := kinds1 h1
  refine ⟨sL l, by rw [dp_str r], by rw [List.size_toArray, sizeLine_eq]; exact hl, fun ys p pm hs hp => ?_⟩
  have e := sorted_is (xs := l.map fun c => [c]) (ys := ys) (by rw [List.map_map]; have pm2 := pm; rw [List.toList_toArray] at pm2; exact pm2) hs
  refine w.v (S.new hp (b := .ol ((srtT (l.map fun c => [c])).map dS)) ⟨ys.map V.str, upd_same, ?_⟩) (Ex.refl G) ⟨p, rfl, rfl⟩
  have := strs_dps (G := G) ys
  rw [e] at this ⊢
  rw [List.map_map (f := sL) (g := PyData.str)] at this
  exact this
/-- set(a list of texts), sorted -/
theorem en_sortSetL {ds : List D} {xs : List Tx} {x y : Str} {p p2 pos2 : Pos} (ha : EV X R e ss O (.dat (.list ds)) O1) (hd : ds = xs.map dS) (U : List Tx) (hU : ∀ x ∈ xs, x ∈ U) (hl : U.length ≤ 1000) (hc : X.calm = true) (hm : X.mg "sorted" = none) (hm2 : X.mg "set" = none) (hx : x = "sorted" := by rfl) (hy : y = "set" := by rfl) (hg : Gl X x := by rfl) (hg2 : Gl X y := by rfl)
    (he : starEach [e] X.env = (false, eval e X.env) :: starEach [] X.env := by exact star_ne rfl) (he2 : starEach [.Call (.Name y p2) [e] [] pos2] X.env = (false, eval (.Call (.Name y p2) [e] [] pos2) X.env) :: starEach [] X.env := by exact star_ne rfl) :
    EN X R (.Call (.Name x p) [.Call (.Name y p2) [e] [] pos2] [] pos) ss O (.ol ((setT xs).map dS)) O1 := by
  subst hx hy hd
  have h1 : EJ X R (.Call (.Name "set" p2) [e] [] pos2) ss O fun k O' => ∃ q c, k = .val (.ref q) ∧ O' = (q, .raw (TxO X.w q (fun j => decide (j ∈ xs.map sL)) c)) :: O1 := by
    refine ej_t1 (call_setL hc) ha ?_ hm2 boot_set hg2 (by decide) (by decide) he
    intro G0 H0 G H σ ss us S h1 Q w
    obtain ⟨v, rfl, r⟩ := kinds1 h1
    obtain ⟨a, vs, rfl, g1, rv⟩ := dp_lst r
    have ev := dps_strs (bs := xs.map sL) (by rw [List.map_map]; exact rv)
    subst ev
    refine ⟨a, xs.map sL, U.map sL, rfl, .of (S.gh _ _ g1), fun x hx => ?_, ?_, fun p c _ hp => ?_⟩
    · obtain ⟨y, hy, rfl⟩ := List.mem_map.mp hx
      exact List.mem_map_of_mem (hU y hy)
    · rw [List.length_map]
      exact Nat.lt_of_le_of_lt (Nat.succ_le_succ hl) (by decide)
    · exact w.v (S.new hp (b := .raw _) upd_same) (Ex.refl G) ⟨p, c, rfl, rfl⟩
  intro G0 H0 G H σ S L Q q
  refine wE_of (pe_callB (call_sortedTx hc) hg hm (by decide +kernel) (pa_cons peW pa_nil he2) (by decide) (by decide) he2 (by rfl)) (h1 G0 H0 G H σ S L _ fun G1 H1 v k O2 S1 e1 r1 ⟨p, c, h1, h2⟩ => ?_)
  subst h1 h2
  have : v = .ref p := r1
  subst this
  have hp : H1 p = some (TxO X.w p (fun j => decide (j ∈ xs.map sL)) c) := (S1.ob _ List.mem_cons_self).1
  refine ⟨p, _, c, rfl, hp, fun ys p2 hs nd hmm hlen hp2 => ?_⟩
  have e := set_is hs nd hmm
  have S2 := S1.less (O' := O1) (fun q hq => List.mem_cons_of_mem _ hq) (List.nodup_cons.mp S1.nd).2
  refine q.v (S2.new hp2 (b := .ol ((setT xs).map dS)) ⟨ys.map V.str, upd_same, ?_⟩) e1 ⟨p2, rfl, rfl⟩
  have := strs_dps (G := G1) ys
  rw [e] at this ⊢
  rw [List.map_map (f := sL) (g := PyData.str)] at this
  exact this
end
end Dl
end
section
/-! short words: statements in a row, defs of the text, calls between them -/
namespace Dl
open PySem PySem.Spec PyProof.Rows L2
open Evl (Ex)

section
variable {X : Cx} {R : Addr → Prop} {e a b c : Expr} {es : List Expr} {ss : List Kd} {O O1 O2 O3 O' : Store} {k ka kb : Kd} {ks : List Kd} {Φ Ψ : Kd → Store → Prop} {pos : Pos} {st : Stmt} {sts rest body : List Stmt} {D D' : DE}
theorem ev_v (i : Nat) {x : Str} {k : Kd} (hk : ss[i]? = some k := by rfl) (hu : k ≠ .und := by exact fun h => nomatch h) (hN : X.N[i]? = some x := by rfl) (hv : Vis X.env.scope x := by first | exact Or.inl rfl | exact Or.inr (Or.inl rfl) | exact Or.inr (Or.inr rfl)) (hd : (x == ("__debug__" : Str)) = false := by decide) (hcd : (x == ("__classdict__" : Str)) = false := by decide) : EV X R (.Name x pos) ss O k O := ev_var i hk hu hN hv hd hcd
theorem sj_set (i : Nat) {x : Str} {pos' : Pos} (he : EV X R e ss O k O') (h : SJ X R rest (ss.set i k) O' D) (hN : X.N.Nodup) (hi : X.N[i]? = some x := by rfl) (hx : Loc X.env.scope x := by first | exact Or.inl rfl | exact Or.inr rfl) (hs : swapsWith e (some (.Name x pos')) pos.line X.env = pure false := by rfl) (hf : X.fn x = true ∨ X.env.scope.names.lookup x = some .local := by first | exact .inl rfl | exact .inr rfl | assumption) :
    SJ X R (.Assign [.Name x pos'] e pos :: rest) ss O D := sj_cons (s1_set i he h hN hi hx hs hf)
theorem sj_setJ (i : Nat) {x : Str} {pos' : Pos} (he : EJ X R e ss O fun k O' => SJ X R rest (ss.set i k) O' D) (hN : X.N.Nodup) (hi : X.N[i]? = some x := by rfl) (hx : Loc X.env.scope x := by first | exact Or.inl rfl | exact Or.inr rfl) (hs : swapsWith e (some (.Name x pos')) pos.line X.env = pure false := by rfl) (hf : X.fn x = true ∨ X.env.scope.names.lookup x = some .local := by first | exact .inl rfl | exact .inr rfl | assumption) :
    SJ X R (.Assign [.Name x pos'] e pos :: rest) ss O D := sj_cons (s1_setJ i he hN hi hx hs hf)
theorem sj_setN (i : Nat) {x : Str} {pos' : Pos} {b : Ob} (he : EN X R e ss O b O') (h : ∀ p, SJ X R rest (ss.set i (.val (.ref p))) ((p, b) :: O') D) (hN : X.N.Nodup) (hi : X.N[i]? = some x := by rfl) (hx : Loc X.env.scope x := by first | exact Or.inl rfl | exact Or.inr rfl) (hs : swapsWith e (some (.Name x pos')) pos.line X.env = pure false := by rfl) (hf : X.fn x = true ∨ X.env.scope.names.lookup x = some .local := by first | exact .inl rfl | exact .inr rfl | assumption) :
    SJ X R (.Assign [.Name x pos'] e pos :: rest) ss O D := sj_cons (s1_setN i he h hN hi hx hs hf)
theorem sj_expr (he : EV X R e ss O k O') (h : SJ X R rest ss O' D) (hs : swapsWith e none pos.line X.env = pure false := by rfl) : SJ X R (.Expr e pos :: rest) ss O D := sj_cons (s1_expr (he.to h) hs)
theorem sj_ret (he : EV X R e ss O k O') (h : D.rt k O') : SJ X R [.Return (some e) pos] ss O D := sj_one (s1_ret (he.to h))
theorem sj_retJ (he : EJ X R e ss O D.rt) : SJ X R [.Return (some e) pos] ss O D := sj_one (s1_ret he)
theorem sj_if {b' : Bool} {body els : List Stmt} (hc : TV X R c ss O b' O1) (h1 : b' = true → SJ X R body ss O1 { D with nx := fun ss' O' => SJ X R rest ss' O' D }) (h2 : b' = false → SJ X R els ss O1 { D with nx := fun ss' O' => SJ X R rest ss' O' D }) : SJ X R (.If c body els pos :: rest) ss O D := sj_cons (s1_if hc h1 h2)
/-- an if without else whose body ends the def -/
theorem sj_ifR {b' : Bool} {body : List Stmt} (hc : TV X R c ss O b' O1) (h1 : b' = true → SJ X R body ss O1 { D with nx := fun ss' O' => SJ X R rest ss' O' D }) (h2 : b' = false → SJ X R rest ss O1 D) : SJ X R (.If c body [] pos :: rest) ss O D := sj_cons (s1_if hc h1 fun h => sj_nil (h2 h))
theorem sj_for {tg iter : Expr} {g : TG} {n : Nat} {item : Nat → Kd} {need : Store → Prop} {ix : List Nat} (Inv : Nat → List Kd → Store → Prop) (hi : IJ X R tg iter ss O n item need O') (hg : PG X tg g) (hp : PassesOwn (model X.prog X.w) X.A X.env X.xe) (hc : X.calm = true) (h0 : Inv 0 ss O') (hn : ∀ i ss O, Inv i ss O → need O)
    (hb : ∀ i ss1 O1, i < n → Inv i ss1 O1 → GJ g ix (item i) ss1 O1 fun ss2 O2 => SJ X R body ss2 O2 { D with nx := Inv (i + 1), ct := Inv (i + 1), bk := fun ss' O' => SJ X R rest ss' O' D }) (hd : ∀ ss1 O1, Inv n ss1 O1 → SJ X R rest ss1 O1 D)
    (hs : ∀ x, foldedSetIterable iter X.env x = pure x := by intro _; rfl) : SJ X R (.For tg iter body [] pos :: rest) ss O D := sj_cons (s1_for Inv hi hg hp hc h0 hn hb hd hs)
theorem sj_setIx (j : Nat) {p : Addr} {ds : List PyData} {i : Int} {n : Nat} {d : PyData} {ppos : Pos} {f : Expr} (hv : EV X R e ss O (.dat d) O1) (ha : EV X R a ss O1 (.val (.ref p)) O2) (hi : EV X R f ss O2 (.dat (.int i)) O3) (hj : O3[j]? = some (p, .ol ds)) (hx : ixN ds.length i = some n) (h : SJ X R rest ss (O3.set j (p, .ol (ds.set n d))) D)
    (hs : swapsWithSole [.Subscript a f ppos] e pos.line X.env = pure false := by rfl) (hw : swappedStores [.Subscript a f ppos] e X.env = pure none := by rfl) (h1 : (assignEach [.Subscript a f ppos] X.env).map (·.2) = [assign (.Subscript a f ppos) X.env] := by rfl)
    (hg : ∀ v, assign (.Subscript a f ppos) X.env v = (do
      let ov ← holding [v] (eval a X.env)
      let iv ← holding [v, ov] (eval f X.env)
      standAt ppos
      holding [v, ov, iv] (setItem ov iv v)
      release [v, ov, iv] []) := by intro _; rfl) : SJ X R (.Assign [.Subscript a f ppos] e pos :: rest) ss O D := sj_cons (s1_setIx j hv ha hi hj hx h hs hw h1 hg)
theorem sj_lc (i : Nat) {x : Str} {px spos : Pos} {elt tg iter : Expr} {ifs : List Expr} {scope : Scope} {Φ : Addr → Store → Prop} (h : LJ X R elt tg iter ifs scope ss O Φ) (hq : ∀ p O', Φ p O' → SJ X R rest (ss.set i (.val (.ref p))) O' D) (hN : X.N.Nodup) (hc : X.calm = true) (hi : X.N[i]? = some x) (hx : X.env.scope.names.lookup x = some .local)
    (hsw : swapsWith (.ListComp elt [⟨tg, iter, ifs, 0⟩] scope pos) (some (.Name x px)) spos.line X.env = pure true) (hs : ∀ x, foldedSetIterable iter X.env x = pure x := by intro _; rfl) : SJ X R (.Assign [.Name x px] (.ListComp elt [⟨tg, iter, ifs, 0⟩] scope pos) spos :: rest) ss O D := sj_cons (s1_lc i h hq hN hc hi hx hsw hs)
/-- a, b = e, f -/
theorem sj_par (i j : Nat) {x y : Str} {px py pt : Pos} {kt k2 : Nat} {pt2 : Pos} (ha : AJ X R [a, b] ss O fun ks O' => ∃ k1 k2, ks = [k1, k2] ∧ SJ X R rest ((ss.set i k1).set j k2) O' D) (hc : X.calm = true) (hN : X.N.Nodup) (hi : X.N[i]? = some x := by rfl) (hj : X.N[j]? = some y := by rfl) (hij : i ≠ j := by decide)
    (hx : X.env.scope.names.lookup x = some .local := by rfl) (hy : X.env.scope.names.lookup y = some .local := by rfl) (hw : swappedStores [.Tuple [.Name x px, .Name y py] kt pt] (.Tuple [a, b] k2 pt2) X.env = pure (some [x, y]) := by rfl)
    (hs : swapsWithSole [.Tuple [.Name x px, .Name y py] kt pt] (.Tuple [a, b] k2 pt2) pos.line X.env = pure false := by rfl) : SJ X R (.Assign [.Tuple [.Name x px, .Name y py] kt pt] (.Tuple [a, b] k2 pt2) pos :: rest) ss O D := sj_cons fun G0 H0 G H σ S L E s =>
  wS_of (ps_par hc hN hi hj hij hx hy paW hw hs) (ha G0 H0 G H σ S L _ fun G1 H1 vs ks O1 S1 e1 r1 ⟨k1, k2, e2, h⟩ => by
    subst e2
    obtain ⟨v, w, rfl, h1, h2⟩ := kinds2 r1
    exact ⟨v, w, rfl, s.nx G1 H1 _ _ O1 ((S1.set i h1).set j h2) e1 h⟩)
theorem tj_bool {Φ : Bool → Store → Prop} (h : EJ X R e ss O fun k O' => ∃ b, k = .dat (.bool b) ∧ Φ b O') (he : ∀ whole, isTrue e X.env whole = (do let v ← whole; standAt e.pos; holding [v] (truthy v)) := by intro _; rfl) : TJ X R e ss O Φ :=
  fun G0 H0 G H σ S L Q q => wT_of (pt_val peW he) (h G0 H0 G H σ S L _ fun G1 H1 v k O1 S1 e1 r1 ⟨b, h1, h2⟩ => by
    subst h1
    cases r1
    exact ⟨b, rfl, q G1 H1 b _ S1 e1 h2⟩)
/-- a test by its value -/
theorem tv_e {b' : Bool} (h : EV X R e ss O (.dat (.bool b')) O') (he : ∀ whole, isTrue e X.env whole = (do let v ← whole; standAt e.pos; holding [v] (truthy v)) := by intro _; rfl) : TV X R e ss O b' O' := tv_val h he
/-! comparisons as tests -/
theorem tv_lt {i j : Int} (ha : EV X R a ss O (.dat (.int i)) O1) (hb : EV X R b ss O1 (.dat (.int j)) O2) : TV X R (.Compare a [.Lt] [b] pos) ss O (decide (i < j)) O2 := tv_cmp op_lt ha hb (oj_B0 ⟨rfl, rfl⟩) (nomark _)
theorem tv_le {i j : Int} (ha : EV X R a ss O (.dat (.int i)) O1) (hb : EV X R b ss O1 (.dat (.int j)) O2) : TV X R (.Compare a [.LtE] [b] pos) ss O (decide (i ≤ j)) O2 := tv_cmp op_le ha hb (oj_B0 ⟨rfl, rfl⟩) (nomark _)
theorem tv_gt {i j : Int} (ha : EV X R a ss O (.dat (.int i)) O1) (hb : EV X R b ss O1 (.dat (.int j)) O2) : TV X R (.Compare a [.Gt] [b] pos) ss O (decide (j < i)) O2 := tv_cmp op_gt ha hb (oj_B0 ⟨rfl, rfl⟩) (nomark _)
theorem tv_ge {i j : Int} (ha : EV X R a ss O (.dat (.int i)) O1) (hb : EV X R b ss O1 (.dat (.int j)) O2) : TV X R (.Compare a [.GtE] [b] pos) ss O (decide (j ≤ i)) O2 := tv_cmp op_ge ha hb (oj_B0 ⟨rfl, rfl⟩) (nomark _)
theorem tv_eq {d1 d2 : PyData} {b' : Bool} {n : Nat} (hr : Room n X.A) (ha : EV X R a ss O (.dat d1) O1) (hb : EV X R b ss O1 (.dat d2) O2) (s1 : pl d1 = true) (s2 : pl d2 = true) (he : PyData.eqv d1 d2 = b') : TV X R (.Compare a [.Eq] [b] pos) ss O b' O2 :=
  tv_cmp (op_eqD hr.units) ha hb (oj_eq hr.units s1 s2 ⟨by rw [he], rfl⟩) (nomark _)
theorem tv_ne {d1 d2 : PyData} {b' : Bool} {n : Nat} (hr : Room n X.A) (ha : EV X R a ss O (.dat d1) O1) (hb : EV X R b ss O1 (.dat d2) O2) (s1 : pl d1 = true) (s2 : pl d2 = true) (he : (!PyData.eqv d1 d2) = b') : TV X R (.Compare a [.NotEq] [b] pos) ss O b' O2 :=
  tv_cmp (op_neD hr.units) ha hb (oj_ne hr.units s1 s2 ⟨by rw [he], rfl⟩) (nomark _)
/-- equality of scalars, of texts -/
theorem tv_eqI {i j : Int} {n : Nat} (hr : Room n X.A) (ha : EV X R a ss O (.dat (.int i)) O1) (hb : EV X R b ss O1 (.dat (.int j)) O2) : TV X R (.Compare a [.Eq] [b] pos) ss O (decide (i = j)) O2 :=
  tv_eq hr ha hb rfl rfl (by simp [PyData.eqv]; rfl)
theorem tv_neI {i j : Int} {n : Nat} (hr : Room n X.A) (ha : EV X R a ss O (.dat (.int i)) O1) (hb : EV X R b ss O1 (.dat (.int j)) O2) : TV X R (.Compare a [.NotEq] [b] pos) ss O (!decide (i = j)) O2 :=
  tv_ne hr ha hb rfl rfl (by simp [PyData.eqv]; rfl)
theorem ev_eqI {i j : Int} {n : Nat} (hr : Room n X.A) (ha : EV X R a ss O (.dat (.int i)) O1) (hb : EV X R b ss O1 (.dat (.int j)) O2) : EV X R (.Compare a [.Eq] [b] pos) ss O (.dat (.bool (decide (i = j)))) O2 :=
  ev_eq hr ha hb rfl rfl (by simp [PyData.eqv]; rfl)
theorem tv_isB {b1 b2 : Bool} (ha : EV X R a ss O (.dat (.bool b1)) O1) (hb : EV X R b ss O1 (.dat (.bool b2)) O2) (hm : behindInMarks .Is b = false := by rfl) : TV X R (.Compare a [.Is] [b] pos) ss O (decide (b1 = b2)) O2 :=
  tv_cmp op_is_bl ha hb (fun G0 H0 G H σ ss x y S h1 h2 Q q => ⟨b1, b2, dp_bl h1, dp_bl h2, q.d S (Ex.refl G) (DP.bl _) ⟨rfl, rfl⟩⟩) hm
theorem tv_isnB {b1 b2 : Bool} (ha : EV X R a ss O (.dat (.bool b1)) O1) (hb : EV X R b ss O1 (.dat (.bool b2)) O2) (hm : behindInMarks .IsNot b = false := by rfl) : TV X R (.Compare a [.IsNot] [b] pos) ss O (!decide (b1 = b2)) O2 :=
  tv_cmp op_isnot_bl ha hb (fun G0 H0 G H σ ss x y S h1 h2 Q q => ⟨b1, b2, dp_bl h1, dp_bl h2, q.d S (Ex.refl G) (DP.bl _) ⟨rfl, rfl⟩⟩) hm
theorem tv_chainI {i j l : Int} (ha : EV X R a ss O (.dat (.int i)) O) (hb : EV X R b ss O (.dat (.int j)) O) (hc : EV X R c ss O (.dat (.int l)) O) (hm : lastMarks [.LtE, .LtE] [b, c] = false := by with_unfolding_all rfl) : TV X R (.Compare a [.LtE, .LtE] [b, c] pos) ss O (decide (i ≤ j) && decide (j ≤ l)) O := fun G0 H0 G H σ S L Q q =>
  wT_of (pt_chain op_le op_le peW peW peW hm) (ha G0 H0 G H σ S L _ fun G1 H1 v k1 O1 S1 e1 r1 ⟨h1, h2⟩ => by
    subst h1 h2
    refine hb G0 H0 G1 H1 σ S1 L _ fun G2 H2 v2 k2 O2 S2 e2 r2 ⟨h3, h4⟩ => ?_
    subst h3 h4
    refine ⟨i, j, dp_int (dp_ex e2 r1), dp_int r2, _, rfl, ?_⟩
    cases hij : decide (i ≤ j) with
    | true =>
      rw [if_pos rfl]
      refine hc G0 H0 G2 H2 σ S2 L _ fun G3 H3 v3 k3 O3 S3 e3 r3 ⟨h5, h6⟩ => ?_
      subst h5 h6
      exact ⟨j, l, dp_int (dp_ex e3 r2), dp_int r3, _, rfl, q G3 H3 _ _ S3 ((e1.trans e2).trans e3) ⟨by rw [hij, Bool.true_and], rfl⟩⟩
    | false =>
      rw [if_neg Bool.false_ne_true]
      exact ⟨_, rfl, q G2 H2 _ _ S2 (e1.trans e2) ⟨by rw [hij, Bool.false_and], rfl⟩⟩)
theorem tv_chainS {i j l : List Nat} (ha : EV X R a ss O (.dat (dS i)) O) (hb : EV X R b ss O (.dat (dS j)) O) (hc : EV X R c ss O (.dat (dS l)) O) (hm : lastMarks [.LtE, .LtE] [b, c] = false := by with_unfolding_all rfl) : TV X R (.Compare a [.LtE, .LtE] [b, c] pos) ss O (!decide (j < i) && !decide (l < j)) O := fun G0 H0 G H σ S L Q q =>
  wT_of (pt_chain op_le_str op_le_str peW peW peW hm) (ha G0 H0 G H σ S L _ fun G1 H1 v k1 O1 S1 e1 r1 ⟨h1, h2⟩ => by
    subst h1 h2
    refine hb G0 H0 G1 H1 σ S1 L _ fun G2 H2 v2 k2 O2 S2 e2 r2 ⟨h3, h4⟩ => ?_
    subst h3 h4
    refine ⟨sL i, sL j, dp_str (dp_ex e2 r1), dp_str r2, _, rfl, ?_⟩
    have e5 : (!decide ((sL j).cps.toList < (sL i).cps.toList)) = !decide (j < i) := by simp
    rw [e5]
    cases hij : (!decide (j < i)) with
    | true =>
      rw [if_pos rfl]
      refine hc G0 H0 G2 H2 σ S2 L _ fun G3 H3 v3 k3 O3 S3 e3 r3 ⟨h5, h6⟩ => ?_
      subst h5 h6
      exact ⟨sL j, sL l, dp_str (dp_ex e3 r2), dp_str r3, _, rfl, q G3 H3 _ _ S3 ((e1.trans e2).trans e3) ⟨by rw [hij, Bool.true_and], rfl⟩⟩
    | false =>
      rw [if_neg Bool.false_ne_true]
      exact ⟨_, rfl, q G2 H2 _ _ S2 (e1.trans e2) ⟨by rw [hij, Bool.false_and], rfl⟩⟩)

/-! the script: a list that is read only -/
abbrev Scr (o : Obj) (ns : List Int) : Ob := .raw (.frz o (.lst (ns.map V.int)))
/-- a list that the module's own part holds -/
def KL (K : PySem.W.Frag) (a : Addr) (ns : List Int) : Prop := ∃ (o : Obj) (its : Array Value) (n : Nat), K.lookup a = some o ∧ o.cls = .type "list" ∧ o.dict = none ∧ o.data = .seq its n ∧ its.size ≤ sizeLine ∧ Vals (ns.map V.int) its.toList
/-- what a store holds of the script -/
def ScB (K : PySem.W.Frag) (a : Addr) (ns : List Int) (B : Store) : Prop := (∃ o, B = [(a, Scr o ns)]) ∨ (B = [] ∧ KL K a ns)
theorem ScB.sq {K : PySem.W.Frag} {q : Addr} {ns : List Int} {B : Store} (h : ScB K q ns B) {G0 H0 G H : Hp} {σ : L2.St} (S : Sta G0 H0 G H σ ss B) : SqL K H q (ns.map V.int) := by
  rcases h with ⟨o, rfl⟩ | ⟨_, h⟩
  · have hv : H q = some (.frz o (.lst (ns.map V.int))) := (S.ob _ List.mem_cons_self).1
    exact .inl (.inr ⟨o, hv⟩)
  · exact .inr h
theorem ev_lenR {x : Str} {p : Pos} {q : Addr} {ns : List Int} (ha : EV X R e ss O (.val (.ref q)) O1) (hq : ScB X.K q ns O1) (hm : X.mg "len" = none) (hx : x = "len" := by rfl) (hg : Gl X x := by rfl) (he : starEach [e] X.env = (false, eval e X.env) :: starEach [] X.env := by exact star_ne rfl) : EV X R (.Call (.Name x p) [e] [] pos) ss O (.dat (.int ns.length)) O1 := by
  subst hx
  refine ej_b1 call_len_seq ha ?_ hm PySem.boot_len hg (by decide) (by decide) he
  intro G0 H0 G H σ ss us S h1 Q w
  obtain ⟨v, rfl, r⟩ := kinds1 h1
  have : v = .ref q := r
  subst this
  refine ⟨q, ns.map V.int, rfl, .inl (hq.sq S), ?_⟩
  rw [List.length_map]
  exact w.d S (Ex.refl G) (DP.int _) ⟨rfl, rfl⟩
theorem ev_ixR {q : Addr} {ns : List Int} {i d : Int} (ha : EV X R a ss O (.val (.ref q)) O1) (hb : EV X R b ss O1 (.dat (.int i)) O2) (hq : ScB X.K q ns O2) (h : atI ns i = some d) (hs : PlainIx b := by exact fun _ _ => rfl) : EV X R (.Subscript a b pos) ss O (.dat (.int d)) O2 :=
  ej_ix ix_list ha hb (fun G0 H0 G H σ ss x y S h1 h2 Q w => by
    have : x = .ref q := h1
    subst this
    refine ⟨q, ns.map V.int, i, .int d, rfl, dp_int h2, hq.sq S, ?_, w.d S (Ex.refl G) (DP.int _) ⟨rfl, rfl⟩⟩
    unfold atI at h ⊢
    rw [List.length_map]
    cases e : ixN ns.length i with
    | none => rw [e] at h; cases h
    | some j =>
      rw [e] at h
      show (ns.map V.int)[j]? = _
      rw [List.getElem?_map, show ns[j]? = some d from h]
      rfl) hs
end

/-! ### defs of the text -/
structure Dfn (K : PySem.W.Frag) (mg : Str → Option Value) (x : Str) (st : Stmt) : Prop where
  ex : ∃ f fd, FunD K x x (defArgs st) (defBody st) (defScope st) [] [] f fd ∧ mg x = some (.ref f)
structure Cal (P : Program) (w : World) (K : PySem.W.Frag) (mg : Str → Option Value) (base : Heap) (x : Str) (n : Nat) (ps : List Str) (T : DSp) : Prop where
  ex : ∃ f fd, mg x = some (.ref f) ∧ PySem.W.keepIn K (.ref f) = true ∧ Binds K fd ps [] ∧ FD P w K mg base n f fd ps T
structure Bn (mg : Str → Option Value) : Prop where
  len : mg "len" = none
  range : mg "range" = none
  isi : mg "isinstance" = none
  all : mg "all" = none
  str : mg "str" = none
  tuple : mg "tuple" = none
  list : mg "list" = none
  int : mg "int" = none
  bool : mg "bool" = none
  repr : mg "repr" = none
  sorted : mg "sorted" = none
  set : mg "set" = none
  min : mg "min" = none
  max : mg "max" = none
  sum : mg "sum" = none
  zip : mg "zip" = none
  dict : mg "dict" = none
section
variable {P : Program} {w : World} {K : PySem.W.Frag} {mg : Str → Option Value} {base : Heap}
theorem fd_okD {x : Str} {st : Stmt} {f : Addr} {fd : FuncData} {N ps : List Str} {n : Nat} {T : DSp} {dvs : List V} {kws : List (Str × V)} (F : FunD K x x (defArgs st) (defBody st) (defScope st) dvs kws f fd) (S : FnScope N ps (defScope st)) (len : ∀ ks B k R, T ks B k R → ks.length = ps.length)
    (hbody : ∀ (cdv : Value) (A : Around) (outer : List Env) (s : Shared) (H : Hp) (E : XK) (ks : List Kd) (B : Store) (k : Kd → Store → Prop) (R : Addr → Prop), Room n (A.deeper (envOfC x (defScope st) s.heap.objs.size f cdv)) → T ks B k R →
      SJ (cxOf (L2.CX P w) P w K mg base N x (defScope st) f cdv A outer s H E) R (defBody st) (startK N ks) B { nx := fun _ O' => fin k (.dat .none) O', rt := fin k }) :
    FD P w K mg base (n + 1) f fd ps T := by
  refine F.ok S (fun vs H Q E h => ?_) (fun cdv A outer s H vs Q E hr h => ⟨wSs _ _, pssW, ?_⟩)
  · obtain ⟨G, ks, B, k, R, hk, _, _, _, hT, _⟩ := h
    exact (paired_len hk).trans (len _ _ _ _ hT)
  · obtain ⟨G, ks, B, k, R, hk, hg, hn, hb, hT, hq, hE⟩ := h
    have hS := hbody cdv A outer s H E ks B k R hr hT
    have ok : Sta G (mask H B) G H (L2.start N vs) (startK N ks) B := by
      refine ⟨Ex.refl G, mask_le, hg, fun a o e => .inl e, ?_, hn, fun q hq => ⟨(hb q hq).1, (hb q hq).2, mask_in (List.mem_map_of_mem hq)⟩⟩
      unfold L2.start startK
      rw [paired_len hk]
      exact paired_app (slots_start hk) (slots_und _)
    have tk : Takes (cxOf (L2.CX P w) P w K mg base N x (defScope st) f cdv A outer s H E) (fun cls d _ H' => E cls d H') := takes_of rfl rfl rfl rfl
    refine hS G (mask H B) G H _ ok (fun C hC σ H' e => wX_of tk (hE C hC H' e)) _ ⟨fun G' H' σ' ss' O' S' e' p => ?_, fun G' H' σ' ss' v k' O' S' e' r p => ?_, fun _ _ _ _ _ _ _ p => p.elim, fun _ _ _ _ _ _ _ p => p.elim⟩
    · obtain ⟨O'', h1, h2, h3⟩ := p
      exact hq G' H' .non (.dat .none) O'' ((S'.less h1 (h2 S'.nd)).slots .nil) DP.non h3
    · obtain ⟨O'', h1, h2, h3⟩ := p
      exact hq G' H' v k' O'' ((S'.less h1 (h2 S'.nd)).slots .nil) r h3
theorem cal_of {x : Str} {st : Stmt} {N ps : List Str} {n : Nat} {T : DSp} (Df : Dfn K mg x st) (S : FnScope N ps (defScope st))
    (hb : ∀ (kV doc pm : Value) (an : Option Addr) (cdv ct : Value) (us : List Value), us.length = ps.length → bindArgs (PySem.W.fnOf x x (defArgs st) (defBody st) (defScope st) .none kV doc pm an cdv ct) ⟨us, []⟩ = pure (ps.zip us)) (len : ∀ ks B k R, T ks B k R → ks.length = ps.length)
    (hbody : ∀ (f : Addr) (cdv : Value) (A : Around) (outer : List Env) (s : Shared) (H : Hp) (E : XK) (ks : List Kd) (B : Store) (k : Kd → Store → Prop) (R : Addr → Prop), Room n (A.deeper (envOfC x (defScope st) s.heap.objs.size f cdv)) → T ks B k R →
      SJ (cxOf (L2.CX P w) P w K mg base N x (defScope st) f cdv A outer s H E) R (defBody st) (startK N ks) B { nx := fun _ O' => fin k (.dat .none) O', rt := fin k }) : Cal P w K mg base x (n + 1) ps T := by
  obtain ⟨f, fd, F, g⟩ := Df.ex
  exact ⟨f, fd, g, F.kp, F.bindsN hb, fd_okD F S len (hbody f)⟩
theorem Cal.up {x : Str} {n m : Nat} {ps : List Str} {T : DSp} (C : Cal P w K mg base x n ps T) (h : n ≤ m) : Cal P w K mg base x m ps T := by
  obtain ⟨f, fd, a, b, c, d⟩ := C.ex
  exact ⟨f, fd, a, b, c, d.mono h⟩
end
section
variable {X : Cx} {R : Addr → Prop} {e : Expr} {es : List Expr} {ss : List Kd} {O O1 O' : Store} {k : Kd} {ks : List Kd} {Φ : Kd → Store → Prop} {pos : Pos}
/-- f(e, ..): nothing lent -/
theorem ej_cal {n m : Nat} {ps : List Str} {T : DSp} {x : Str} {p : Pos} (C : Cal X.prog X.w X.K X.mg X.base x n ps T) (hr : Room m X.A) (hl : n ≤ m) (ha : AV X R (e :: es) ss O ks O1) (hT : T ks [] (fun r B' => Φ r (B' ++ O1)) R) (hg : Gl X x := by rfl)
    (hdb : (x == ("__debug__" : Str)) = false := by decide) (he : starEach (e :: es) X.env = (false, eval e X.env) :: starEach es X.env := by exact star_ne rfl) (hpl : (backTo pos (starEach es X.env)).any (·.1) = false := by rfl) : EJ X R (.Call (.Name x p) (e :: es) [] pos) ss O Φ := by
  obtain ⟨f, fd, a, b, c, d⟩ := C.ex
  exact ev_call d (hr.mono hl) hg a b c ha hT hdb he hpl
theorem ev_cal {n m : Nat} {ps : List Str} {T : DSp} {x : Str} {p : Pos} (C : Cal X.prog X.w X.K X.mg X.base x n ps T) (hr : Room m X.A) (hl : n ≤ m) (ha : AV X R (e :: es) ss O ks O1) (hT : T ks [] (fun r B' => isK k O1 r (B' ++ O1)) R) (hg : Gl X x := by rfl)
    (hdb : (x == ("__debug__" : Str)) = false := by decide) (he : starEach (e :: es) X.env = (false, eval e X.env) :: starEach es X.env := by exact star_ne rfl) (hpl : (backTo pos (starEach es X.env)).any (·.1) = false := by rfl) : EV X R (.Call (.Name x p) (e :: es) [] pos) ss O k O1 := ej_cal C hr hl ha hT hg hdb he hpl
/-- .. the object at place j lent -/
theorem ej_calO (j : Nat) {n m : Nat} {ps : List Str} {T : DSp} {x : Str} {p : Pos} {q : Addr × Ob} (C : Cal X.prog X.w X.K X.mg X.base x n ps T) (hr : Room m X.A) (hl : n ≤ m) (ha : AV X R (e :: es) ss O ks O1) (hj : O1[j]? = some q) (hT : T ks [q] (fun r B' => Φ r (B' ++ O1.eraseIdx j)) R) (hg : Gl X x := by rfl)
    (hdb : (x == ("__debug__" : Str)) = false := by decide) (he : starEach (e :: es) X.env = (false, eval e X.env) :: starEach es X.env := by exact star_ne rfl) (hpl : (backTo pos (starEach es X.env)).any (·.1) = false := by rfl) : EJ X R (.Call (.Name x p) (e :: es) [] pos) ss O Φ := by
  obtain ⟨f, fd, a, b, c, d⟩ := C.ex
  exact ev_callO j d (hr.mono hl) hg a b c ha hj hT hdb he hpl
end
end Dl
end
section
/-! loops and comprehensions over plain names -/
namespace Dl
open PySem PySem.Spec PyProof.Rows L2
open Evl (Ex)
section
variable {X : Cx} {R : Addr → Prop} {e a b c elt iter : Expr} {es ifs : List Expr} {ss : List Kd} {O O1 O2 O3 O' : Store} {k ka kb : Kd} {ks : List Kd} {Φ Ψ : Kd → Store → Prop} {pos px : Pos} {st : Stmt} {sts rest body : List Stmt} {D D' : DE} {n : Nat} {item : Nat → Kd} {need : Store → Prop} {x y : Str} {scope : Scope}
theorem sj_for1 (v : Nat) (Inv : Nat → List Kd → Store → Prop) (hN : X.N.Nodup) (hi : IJ X R (.Name x px) iter ss O n item need O') (h0 : Inv 0 ss O') (hn : ∀ i ss O, Inv i ss O → need O)
    (hb : ∀ i ss1 O1, i < n → Inv i ss1 O1 → SJ X R body (ss1.set v (item i)) O1 { D with nx := Inv (i + 1), ct := Inv (i + 1), bk := fun ss' O' => SJ X R rest ss' O' D }) (hd : ∀ ss1 O1, Inv n ss1 O1 → SJ X R rest ss1 O1 D)
    (hx : X.N[v]? = some x := by rfl) (hl : Loc X.env.scope x := by first | exact Or.inl rfl | exact Or.inr rfl) (hfx : X.fn x = true ∨ X.env.scope.names.lookup x = some .local := by first | exact .inl rfl | exact .inr rfl) (hp : PassesOwn (model X.prog X.w) X.A X.env X.xe := by exact passes_of rfl) (hc : X.calm = true := by rfl)
    (hs : ∀ x, foldedSetIterable iter X.env x = pure x := by intro _; rfl) : SJ X R (.For (.Name x px) iter body [] pos :: rest) ss O D :=
  sj_for (ix := [v]) Inv hi (pg_name (i := v) hN hx hl (hf := hfx)) hp hc h0 hn (fun i ss1 O1 hi iv => gj_name v (hb i ss1 O1 hi iv)) hd hs
theorem sj_for2 (v u : Nat) {d1 d2 : Nat → PyData} {py pt : Pos} {kt : Nat} (Inv : Nat → List Kd → Store → Prop) (hN : X.N.Nodup) (hi : IJ X R (.Tuple [.Name x px, .Name y py] kt pt) iter ss O n item need O') (ht : ∀ i, i < n → isTwo (item i) (d1 i) (d2 i)) (h0 : Inv 0 ss O') (hn : ∀ i ss O, Inv i ss O → need O)
    (hb : ∀ i ss1 O1, i < n → Inv i ss1 O1 → SJ X R body ((ss1.set v (.dat (d1 i))).set u (.dat (d2 i))) O1 { D with nx := Inv (i + 1), ct := Inv (i + 1), bk := fun ss' O' => SJ X R rest ss' O' D }) (hd : ∀ ss1 O1, Inv n ss1 O1 → SJ X R rest ss1 O1 D)
    (hx : X.N[v]? = some x := by rfl) (hl : Loc X.env.scope x := by first | exact Or.inl rfl | exact Or.inr rfl) (hfx : X.fn x = true ∨ X.env.scope.names.lookup x = some .local := by first | exact .inl rfl | exact .inr rfl) (hy : X.N[u]? = some y := by rfl) (hly : Loc X.env.scope y := by first | exact Or.inl rfl | exact Or.inr rfl) (hfy : X.fn y = true ∨ X.env.scope.names.lookup y = some .local := by first | exact .inl rfl | exact .inr rfl) (hp : PassesOwn (model X.prog X.w) X.A X.env X.xe := by exact passes_of rfl) (hc : X.calm = true := by rfl)
    (hw : (assignEach [.Name x px, .Name y py] X.env).length = 2 := by rfl) (hst : (assignEach [.Name x px, .Name y py] X.env).findIdx? (·.1) = none := by rfl)
    (hs : ∀ x, foldedSetIterable iter X.env x = pure x := by intro _; rfl) : SJ X R (.For (.Tuple [.Name x px, .Name y py] kt pt) iter body [] pos :: rest) ss O D :=
  sj_for (ix := [v, u]) Inv hi (pg_tup hc (pgs_cons (pg_name (i := v) hN hx hl (hf := hfx)) (pgs_cons (pg_name (i := u) hN hy hly (hf := hfy)) pgs_nil)) hw hst) hp hc h0 hn (fun i ss1 O1 hi iv => gj_tup2 v u (ht i hi) (hb i ss1 O1 hi iv)) hd hs
/-- [elt for x in iter], a plain map -/
theorem lj_map1 (v : Nat) (f : Nat → PyData) (ok : BlkOk X.N X.env.scope scope [(x, v)]) (hN : X.N.Nodup) (hi : IJ X R (.Name x px) iter ss O n item any O1) (hm : n ≤ 16777216)
    (hb : ∀ i, i < n → ∀ s H C cl fp, EV (Bk X scope s H C cl fp) No elt ((ss.set v .und).set v (item i)) O1 (.dat (f i)) O1)
    (hx : X.N[v]? = some x := by rfl) (hlx : ∀ s H C cl fp, Loc (Bk X scope s H C cl fp).env.scope x := by intro _ _ _ _ _; first | exact Or.inl rfl | exact Or.inr rfl) (hfx : ∀ s H C cl fp, (Bk X scope s H C cl fp).fn x = true ∨ (Bk X scope s H C cl fp).env.scope.names.lookup x = some .local := by intro _ _ _ _ _; first | exact .inl rfl | exact .inr rfl) : LJ X R elt (.Name x px) iter [] scope ss O fun p O' => O' = (p, .ol ((List.range n).map f)) :: O1 :=
  lj_map (ix := [v]) f ok hi (fun s H C cl fp => pg_name (i := v) hN hx (hlx s H C cl fp) (hf := hfx s H C cl fp)) (fun i hi => hi) hm (fun i hi => gj_name v (fun s H C cl fp => hb i hi s H C cl fp))
theorem lj_mapIf1 (v : Nat) (t : Nat → Bool) (f : Nat → PyData) (ok : BlkOk X.N X.env.scope scope [(x, v)]) (hN : X.N.Nodup) (hi : IJ X R (.Name x px) iter ss O n item any O1) (hm : n ≤ 16777216)
    (ht : ∀ i, i < n → ∀ s H C cl fp, TV (Bk X scope s H C cl fp) No c ((ss.set v .und).set v (item i)) O1 (t i) O1)
    (hb : ∀ i, i < n → t i = true → ∀ s H C cl fp, EV (Bk X scope s H C cl fp) No elt ((ss.set v .und).set v (item i)) O1 (.dat (f i)) O1)
    (hx : X.N[v]? = some x := by rfl) (hlx : ∀ s H C cl fp, Loc (Bk X scope s H C cl fp).env.scope x := by intro _ _ _ _ _; first | exact Or.inl rfl | exact Or.inr rfl) (hfx : ∀ s H C cl fp, (Bk X scope s H C cl fp).fn x = true ∨ (Bk X scope s H C cl fp).env.scope.names.lookup x = some .local := by intro _ _ _ _ _; first | exact .inl rfl | exact .inr rfl) : LJ X R elt (.Name x px) iter [c] scope ss O fun p O' => O' = (p, .ol (((List.range n).filter t).map f)) :: O1 :=
  lj_mapIf (ix := [v]) t f ok hi (fun s H C cl fp => pg_name (i := v) hN hx (hlx s H C cl fp) (hf := hfx s H C cl fp)) (fun i hi => hi) hm (fun i hi => gj_name v ⟨fun s H C cl fp => ht i hi s H C cl fp, fun h s H C cl fp => hb i hi h s H C cl fp⟩)
/-- [elt for x, y in iter] -/
theorem lj_map2 (v u : Nat) {d1 d2 : Nat → PyData} {py pt : Pos} {kt : Nat} (f : Nat → PyData) (ok : BlkOk X.N X.env.scope scope [(x, v), (y, u)]) (hN : X.N.Nodup) (hi : IJ X R (.Tuple [.Name x px, .Name y py] kt pt) iter ss O n item any O1) (ht : ∀ i, i < n → isTwo (item i) (d1 i) (d2 i)) (hm : n ≤ 16777216)
    (hb : ∀ i, i < n → ∀ s H C cl fp, EV (Bk X scope s H C cl fp) No elt ((((ss.set u .und).set v .und).set v (.dat (d1 i))).set u (.dat (d2 i))) O1 (.dat (f i)) O1)
    (hc : X.calm = true := by rfl) (hx : X.N[v]? = some x := by rfl) (hlx : ∀ s H C cl fp, Loc (Bk X scope s H C cl fp).env.scope x := by intro _ _ _ _ _; first | exact Or.inl rfl | exact Or.inr rfl) (hfx : ∀ s H C cl fp, (Bk X scope s H C cl fp).fn x = true ∨ (Bk X scope s H C cl fp).env.scope.names.lookup x = some .local := by intro _ _ _ _ _; first | exact .inl rfl | exact .inr rfl) (hy : X.N[u]? = some y := by rfl) (hly : ∀ s H C cl fp, Loc (Bk X scope s H C cl fp).env.scope y := by intro _ _ _ _ _; first | exact Or.inl rfl | exact Or.inr rfl) (hfy : ∀ s H C cl fp, (Bk X scope s H C cl fp).fn y = true ∨ (Bk X scope s H C cl fp).env.scope.names.lookup y = some .local := by intro _ _ _ _ _; first | exact .inl rfl | exact .inr rfl)
    (hw : ∀ s H C cl fp, (assignEach [.Name x px, .Name y py] (Bk X scope s H C cl fp).env).length = 2 := by intro _ _ _ _ _; rfl) (hst : ∀ s H C cl fp, (assignEach [.Name x px, .Name y py] (Bk X scope s H C cl fp).env).findIdx? (·.1) = none := by intro _ _ _ _ _; rfl) : LJ X R elt (.Tuple [.Name x px, .Name y py] kt pt) iter [] scope ss O fun p O' => O' = (p, .ol ((List.range n).map f)) :: O1 :=
  lj_map (ix := [v, u]) (g := gTup X.K 2 (gCons (gName v) (gCons (gName u) gNil))) f ok hi (fun s H C cl fp => pg_tup (X := Bk X scope s H C cl fp) hc (pgs_cons (pg_name (X := Bk X scope s H C cl fp) (i := v) hN hx (hlx s H C cl fp) (hf := hfx s H C cl fp)) (pgs_cons (pg_name (X := Bk X scope s H C cl fp) (i := u) hN hy (hly s H C cl fp) (hf := hfy s H C cl fp)) pgs_nil)) (hw s H C cl fp) (hst s H C cl fp)) (fun i hi => hi) hm (fun i hi => gj_tup2 v u (ht i hi) (fun s H C cl fp => hb i hi s H C cl fp))
/-- [elt for x, y in iter if c] -/
theorem lj_mapIf2 (v u : Nat) {d1 d2 : Nat → PyData} {py pt : Pos} {kt : Nat} (t : Nat → Bool) (f : Nat → PyData) (ok : BlkOk X.N X.env.scope scope [(x, v), (y, u)]) (hN : X.N.Nodup) (hi : IJ X R (.Tuple [.Name x px, .Name y py] kt pt) iter ss O n item any O1) (ht : ∀ i, i < n → isTwo (item i) (d1 i) (d2 i)) (hm : n ≤ 16777216)
    (hc1 : ∀ i, i < n → ∀ s H C cl fp, TV (Bk X scope s H C cl fp) No c ((((ss.set u .und).set v .und).set v (.dat (d1 i))).set u (.dat (d2 i))) O1 (t i) O1)
    (hb : ∀ i, i < n → t i = true → ∀ s H C cl fp, EV (Bk X scope s H C cl fp) No elt ((((ss.set u .und).set v .und).set v (.dat (d1 i))).set u (.dat (d2 i))) O1 (.dat (f i)) O1)
    (hc : X.calm = true := by rfl) (hx : X.N[v]? = some x := by rfl) (hlx : ∀ s H C cl fp, Loc (Bk X scope s H C cl fp).env.scope x := by intro _ _ _ _ _; first | exact Or.inl rfl | exact Or.inr rfl) (hfx : ∀ s H C cl fp, (Bk X scope s H C cl fp).fn x = true ∨ (Bk X scope s H C cl fp).env.scope.names.lookup x = some .local := by intro _ _ _ _ _; first | exact .inl rfl | exact .inr rfl) (hy : X.N[u]? = some y := by rfl) (hly : ∀ s H C cl fp, Loc (Bk X scope s H C cl fp).env.scope y := by intro _ _ _ _ _; first | exact Or.inl rfl | exact Or.inr rfl) (hfy : ∀ s H C cl fp, (Bk X scope s H C cl fp).fn y = true ∨ (Bk X scope s H C cl fp).env.scope.names.lookup y = some .local := by intro _ _ _ _ _; first | exact .inl rfl | exact .inr rfl)
    (hw : ∀ s H C cl fp, (assignEach [.Name x px, .Name y py] (Bk X scope s H C cl fp).env).length = 2 := by intro _ _ _ _ _; rfl) (hst : ∀ s H C cl fp, (assignEach [.Name x px, .Name y py] (Bk X scope s H C cl fp).env).findIdx? (·.1) = none := by intro _ _ _ _ _; rfl) : LJ X R elt (.Tuple [.Name x px, .Name y py] kt pt) iter [c] scope ss O fun p O' => O' = (p, .ol (((List.range n).filter t).map f)) :: O1 :=
  lj_mapIf (ix := [v, u]) (g := gTup X.K 2 (gCons (gName v) (gCons (gName u) gNil))) t f ok hi (fun s H C cl fp => pg_tup (X := Bk X scope s H C cl fp) hc (pgs_cons (pg_name (X := Bk X scope s H C cl fp) (i := v) hN hx (hlx s H C cl fp) (hf := hfx s H C cl fp)) (pgs_cons (pg_name (X := Bk X scope s H C cl fp) (i := u) hN hy (hly s H C cl fp) (hf := hfy s H C cl fp)) pgs_nil)) (hw s H C cl fp) (hst s H C cl fp)) (fun i hi => hi) hm (fun i hi => gj_tup2 v u (ht i hi) ⟨fun s H C cl fp => hc1 i hi s H C cl fp, fun h s H C cl fp => hb i hi h s H C cl fp⟩)
/-- [elt for x in iter], the store changes -/
theorem lj_inv1 (v : Nat) (Inv : Nat → List PyData → Store → Prop) (ok : BlkOk X.N X.env.scope scope [(x, v)]) (hN : X.N.Nodup) (hi : IJ X R (.Name x px) iter ss O n item need O1) (hm : n ≤ 16777216) (h0 : Inv 0 [] O1) (hn : ∀ i acc O, Inv i acc O → need O) (hl2 : ∀ i acc O, Inv i acc O → acc.length ≤ i)
    (hb : ∀ i acc O2, i < n → Inv i acc O2 → ∀ s H C cl fp, EJ (Bk X scope s H C cl fp) No elt ((ss.set v .und).set v (item i)) O2 fun k O' => ∃ d, k = .dat d ∧ Inv (i + 1) (acc ++ [d]) O')
    (hx : X.N[v]? = some x := by rfl) (hlx : ∀ s H C cl fp, Loc (Bk X scope s H C cl fp).env.scope x := by intro _ _ _ _ _; first | exact Or.inl rfl | exact Or.inr rfl) (hfx : ∀ s H C cl fp, (Bk X scope s H C cl fp).fn x = true ∨ (Bk X scope s H C cl fp).env.scope.names.lookup x = some .local := by intro _ _ _ _ _; first | exact .inl rfl | exact .inr rfl) : LJ X R elt (.Name x px) iter [] scope ss O fun p O' => ∃ ds O2, O' = (p, .ol ds) :: O2 ∧ Inv n ds O2 :=
  LJ.ol (Inv := Inv n) ((lc_any (own := [(x, v)]) (ix := [v]) (tt := tYes) (fun i acc O => ∃ ds : List PyData, acc = ds.map .dat ∧ Inv i ds O) ok hi (fun s H C cl fp => pg_name (i := v) hN hx (hlx s H C cl fp) (hf := hfx s H C cl fp)) (fun i hi => hi) (fun _ _ _ _ _ => pts_nil) ⟨[], rfl, h0⟩ (fun i acc O ⟨ds, _, iv⟩ => hn i ds O iv) (fun i acc O ⟨ds, e, iv⟩ => by rw [e, List.length_map]; exact hl2 i ds O iv) hm (fun i acc O2 hlt ⟨ds, e, iv⟩ => by
    subst e
    refine gj_name v ?_
    intro G0 H0 G H σ2 S2 Q2 q2
    refine q2 G H true O2 S2 (Ex.refl G) ?_
    rw [if_pos rfl]
    intro s Hb C cl fp
    refine (hb i ds O2 hlt iv s Hb C cl fp).imp ?_
    rintro k O ⟨d, rfl, iv2⟩
    exact ⟨ds ++ [d], by rw [List.map_append]; rfl, iv2⟩)).imp' fun G0 H0 G H σ p O' S ⟨acc, O2, e, ds, e1, iv⟩ => ⟨O', S, acc, O2, e, ds, e1, iv⟩)
/-- [elt for x in iter], own things -/
theorem lj_own1 (v : Nat) (Inv : Nat → List Kd → Store → Prop) (ok : BlkOk X.N X.env.scope scope [(x, v)]) (hN : X.N.Nodup) (hi : IJ X R (.Name x px) iter ss O n item need O1) (hm : n ≤ 16777216) (h0 : Inv 0 [] O1) (hn : ∀ i acc O, Inv i acc O → need O) (hl2 : ∀ i acc O, Inv i acc O → acc.length ≤ i)
    (hb : ∀ i acc O2, i < n → Inv i acc O2 → ∀ s H C cl fp, EJ (Bk X scope s H C cl fp) No elt ((ss.set v .und).set v (item i)) O2 fun k O' => Inv (i + 1) (acc ++ [k]) O')
    (hx : X.N[v]? = some x := by rfl) (hlx : ∀ s H C cl fp, Loc (Bk X scope s H C cl fp).env.scope x := by intro _ _ _ _ _; first | exact Or.inl rfl | exact Or.inr rfl) (hfx : ∀ s H C cl fp, (Bk X scope s H C cl fp).fn x = true ∨ (Bk X scope s H C cl fp).env.scope.names.lookup x = some .local := by intro _ _ _ _ _; first | exact .inl rfl | exact .inr rfl) : LJ X R elt (.Name x px) iter [] scope ss O fun p O' => ∃ acc O2, O' = (p, .okl acc) :: O2 ∧ Inv n acc O2 :=
  lc_any (own := [(x, v)]) (ix := [v]) (tt := tYes) Inv ok hi (fun s H C cl fp => pg_name (i := v) hN hx (hlx s H C cl fp) (hf := hfx s H C cl fp)) (fun i hi => hi) (fun _ _ _ _ _ => pts_nil) h0 hn hl2 hm (fun i acc O2 hlt iv => by
    refine gj_name v ?_
    intro G0 H0 G H σ2 S2 Q2 q2
    refine q2 G H true O2 S2 (Ex.refl G) ?_
    rw [if_pos rfl]
    intro s Hb C cl fp
    exact hb i acc O2 hlt iv s Hb C cl fp)
/-- from a judgement over lists to a new list that goes on -/
theorem ej_lj {Φ' : Addr → Store → Prop} (h : LJ X R elt a iter ifs scope ss O Φ') (hq : ∀ p O', Φ' p O' → Φ (.val (.ref p)) O') (hN : X.N.Nodup) (hc : X.calm = true := by rfl) (hs : ∀ x, foldedSetIterable iter X.env x = pure x := by intro _; rfl) : EJ X R (.ListComp elt [⟨a, iter, ifs, 0⟩] scope pos) ss O Φ :=
  EJ.imp (ej_lcv h hN hc hs) fun k O ⟨p, e1, e2⟩ => by subst e1; exact hq p O e2
/-- a judgement of a new list, as data -/
theorem EJ.frzJ {Inv : List PyData → Store → Prop} (h : EJ X R e ss O fun k O' => ∃ p ds O2, k = .val (.ref p) ∧ O' = (p, .ol ds) :: O2 ∧ Inv ds O2) : EJ X R e ss O fun k O' => ∃ ds, k = .dat (.list ds) ∧ Inv ds O' := fun G0 H0 G H σ S L Q q => h G0 H0 G H σ S L Q fun G1 H1 v k O1 S1 e1 r1 ⟨p, ds, O2, h1, h2, iv⟩ => by
  subst h1 h2
  obtain ⟨G', S', e', d'⟩ := S1.freeze (i := 0) rfl
  have : v = .ref p := r1
  subst this
  exact q.d S' (e1.trans e') d' ⟨ds, rfl, iv⟩
/-- a call of one argument that is judged -/
theorem ej_t1J {id : String} {r : List V → Hp → VK → Prop} {x : Str} {p : Pos} {Φ1 : Kd → Store → Prop} (hc : CallR X (.type id) r) (ha : EJ X R e ss O Φ1) (h : ∀ k O1, Φ1 k O1 → CJ X r [k] O1 Φ) (hm : X.mg x = none) (hv : bootBuiltins x = some (.type id)) (hg : Gl X x := by rfl)
    (hn : x ≠ "__name__" := by decide) (hdb : (x == ("__debug__" : Str)) = false := by decide) (he : starEach [e] X.env = (false, eval e X.env) :: starEach [] X.env := by exact star_ne rfl) (hpl : (backTo pos (starEach [] X.env)).any (·.1) = false := by rfl) : EJ X R (.Call (.Name x p) [e] [] pos) ss O Φ := fun G0 H0 G H σ S L Q q =>
  wE_of (pe_callTy hc hg hm hv (pa_cons peW pa_nil he) hn hdb he hpl) (ha G0 H0 G H σ S L _ fun G1 H1 v k O2 S1 e1 r1 p1 => h k O2 p1 G0 H0 G1 H1 σ ss [v] S1 (.cons r1 .nil) Q (q.ex e1))
theorem ej_tupJ {Inv : List PyData → Store → Prop} {p : Pos} (ha : EJ X R e ss O fun k O' => ∃ ds, k = .dat (.list ds) ∧ Inv ds O') (hm : X.mg "tuple" = none) (hq : ∀ ds O', Inv ds O' → Φ (.dat (.tuple ds)) O') (hx : x = "tuple" := by rfl) (hg : Gl X x := by rfl) (he : starEach [e] X.env = (false, eval e X.env) :: starEach [] X.env := by exact star_ne rfl) :
    EJ X R (.Call (.Name x p) [e] [] pos) ss O Φ := by
  subst hx
  refine ej_t1J call_tuple_ofP ha (fun k O1 ⟨ds, hk, iv⟩ => ?_) hm boot_tuple hg (by decide) (by decide) he
  subst hk
  intro G0 H0 G H σ ss xs S h1 Q w
  obtain ⟨v, rfl, r⟩ := kinds1 h1
  obtain ⟨a, vs, rfl, g1, rv⟩ := dp_lst r
  refine ⟨a, vs, rfl, .inl ⟨.of (S.gh _ _ g1), fun l o hl ho => ?_⟩⟩
  have eg : Ex G (upd G l (.frz o (.tup vs))) := Ex.new (S.free hl)
  exact w.d (S.data hl _) eg (DP.tup (PTu.new ho) (dpAll_ex eg rv)) (hq ds O1 iv)
/-- "".join of a judged list of texts -/
theorem ej_joinJ {s : Str} {Inv : List Tx → Store → Prop} {apos : Pos} {f : Expr} (ha : EV X R a ss O (.dat (.str s)) O1) (hs : s = sL []) (hf : EJ X R f ss O1 fun k O' => ∃ ds, k = .dat (.list ds) ∧ ∃ xs : List Tx, ds = xs.map dS ∧ xs.flatten.length ≤ 16777216 ∧ Inv xs O') (hq : ∀ xs O', Inv xs O' → Φ (.dat (dS xs.flatten)) O')
    (he : starEach [f] X.env = [(false, eval f X.env)] := by exact star_ne rfl) (hbase : attributeBase a "join" X.env (eval a X.env) = eval a X.env := by rfl) (hline : (apos.endLine == pos.line) = true := by rfl) : EJ X R (.Call (.Attribute a "join" apos) [f] [] pos) ss O Φ := fun G0 H0 G H σ S L Q q =>
  wE_of (pe_join peW peW he hbase hline) (ha G0 H0 G H σ S L _ fun G1 H1 v k1 O3 S1 e1 r1 ⟨h1, h2⟩ => by
    subst h1 h2 hs
    refine ⟨⟨_, dp_str r1⟩, hf G0 H0 G1 H1 σ S1 L _ fun G2 H2 v2 k2 O4 S2 e2 r2 ⟨ds, h3, xs, h4, hz, iv⟩ => ?_⟩
    subst h3 h4
    obtain ⟨p, vs, rfl, g1, rv⟩ := dp_lst r2
    have ev := dps_strs (bs := xs.map sL) (by rw [List.map_map]; exact rv)
    subst ev
    refine ⟨sL [], p, xs.map sL, dp_str r1, rfl, .inl (.of (S2.gh _ _ g1)), ?_, ?_⟩
    · rw [sum_lens]
      show _ + _ * 0 ≤ _
      omega
    · rw [TL.join_eq]
      have e := joins_nil xs
      rw [show (sL [] : Str) = Str.empty from rfl, e]
      exact q.d S2 (e1.trans e2) (DP.str _) (hq xs O4 iv))
end
end Dl
end
section
/-! frames; the bags of drawn numbers -/
namespace Dl
open PySem PySem.Spec PyProof.Rows L2
open Evl (Ex)
section
variable {X : Cx} {R : Addr → Prop} {e a b c elt iter : Expr} {es ifs : List Expr} {ss : List Kd} {O O1 O2 O3 O' : Store} {k ka kb : Kd} {ks : List Kd} {Φ Ψ : Kd → Store → Prop} {pos px : Pos} {st : Stmt} {sts rest body : List Stmt} {D D' : DE} {n : Nat} {item : Nat → Kd} {need : Store → Prop} {x y : Str} {scope : Scope}
def DE.fr (D : DE) (F : Store) : DE := { nx := fun ss' O' => ∃ O1, O' = F ++ O1 ∧ D.nx ss' O1, rt := fun k O' => ∃ O1, O' = F ++ O1 ∧ D.rt k O1, bk := fun ss' O' => ∃ O1, O' = F ++ O1 ∧ D.bk ss' O1, ct := fun ss' O' => ∃ O1, O' = F ++ O1 ∧ D.ct ss' O1 }
theorem SJ.frame1 {q : Addr × Ob} (h : SJ X R sts ss O D) : SJ X R sts ss (q :: O) (D.fr [q]) := fun G0 H0 G H σ S L E s => by
  obtain ⟨S', le⟩ := S.hide
  exact h G0 _ G H σ S' (L.mono le) E ⟨fun G1 H1 σ' ss' O1 S1 e1 p => s.nx G1 H1 σ' ss' _ (S.unhide S1 e1) e1 ⟨O1, rfl, p⟩, fun G1 H1 σ' ss' v k O1 S1 e1 r p => s.rt G1 H1 σ' ss' v k _ (S.unhide S1 e1) e1 r ⟨O1, rfl, p⟩,
    fun G1 H1 σ' ss' O1 S1 e1 p => s.bk G1 H1 σ' ss' _ (S.unhide S1 e1) e1 ⟨O1, rfl, p⟩, fun G1 H1 σ' ss' O1 S1 e1 p => s.ct G1 H1 σ' ss' _ (S.unhide S1 e1) e1 ⟨O1, rfl, p⟩⟩
theorem SJ.frame (h : SJ X R sts ss O D) : ∀ F : Store, SJ X R sts ss (F ++ O) (D.fr F)
  | [] => h.imp (fun ss O p => ⟨O, rfl, p⟩) (fun k O p => ⟨O, rfl, p⟩) (fun ss O p => ⟨O, rfl, p⟩) (fun ss O p => ⟨O, rfl, p⟩)
  | q :: F => ((SJ.frame h F).frame1 (q := q)).imp (fun ss O ⟨O1, e, O2, e2, p⟩ => ⟨O2, by rw [e, e2]; rfl, p⟩) (fun ss O ⟨O1, e, O2, e2, p⟩ => ⟨O2, by rw [e, e2]; rfl, p⟩) (fun ss O ⟨O1, e, O2, e2, p⟩ => ⟨O2, by rw [e, e2]; rfl, p⟩) (fun ss O ⟨O1, e, O2, e2, p⟩ => ⟨O2, by rw [e, e2]; rfl, p⟩)
/-- at the ends some objects are let go -/
def DE.lt (D : DE) : DE := { nx := fun ss' O' => ∃ O1 : Store, O1.Sublist O' ∧ D.nx ss' O1, rt := fun k O' => ∃ O1 : Store, O1.Sublist O' ∧ D.rt k O1, bk := fun ss' O' => ∃ O1 : Store, O1.Sublist O' ∧ D.bk ss' O1, ct := fun ss' O' => ∃ O1 : Store, O1.Sublist O' ∧ D.ct ss' O1 }
theorem Sta.sub {G0 H0 G H : Hp} {σ : L2.St} (S : Sta G0 H0 G H σ ss O) (h : O'.Sublist O) : Sta G0 H0 G H σ ss O' := S.less (fun q hq => h.subset hq) (S.nd.sublist (h.map _))
theorem SJ.lt (h : SJ X R sts ss O D.lt) : SJ X R sts ss O D := fun G0 H0 G H σ S L E s => h G0 H0 G H σ S L E
  ⟨fun G1 H1 σ' ss' O1 S1 e1 ⟨O2, l, p⟩ => s.nx G1 H1 σ' ss' O2 (S1.sub l) e1 p, fun G1 H1 σ' ss' v k O1 S1 e1 r ⟨O2, l, p⟩ => s.rt G1 H1 σ' ss' v k O2 (S1.sub l) e1 r p, fun G1 H1 σ' ss' O1 S1 e1 ⟨O2, l, p⟩ => s.bk G1 H1 σ' ss' O2 (S1.sub l) e1 p, fun G1 H1 σ' ss' O1 S1 e1 ⟨O2, l, p⟩ => s.ct G1 H1 σ' ss' O2 (S1.sub l) e1 p⟩
theorem EJ.nd (h : EJ X R e ss O Φ) : EJ X R e ss O fun k O' => Φ k O' ∧ (O'.map (·.1)).Nodup := fun G0 H0 G H σ S L Q q => h G0 H0 G H σ S L Q fun G1 H1 v k O1 S1 e1 r1 p => q G1 H1 v k O1 S1 e1 r1 ⟨p, S1.nd⟩
/-- for over what a call gives: an own list of own things -/
theorem s1_forJ (v : Nat) (hN : X.N.Nodup) (he : EJ X R iter ss O fun k O' => ∃ pl ks, k = .val (.ref pl) ∧ (pl, Ob.okl ks) ∈ O' ∧ ∃ Inv : Nat → List Kd → Store → Prop, Inv 0 ss O' ∧ (∀ i ss O, Inv i ss O → (pl, Ob.okl ks) ∈ O) ∧
      (∀ i ss1 O1 k, ks[i]? = some k → Inv i ss1 O1 → SJ X R body (ss1.set v k) O1 { D with nx := Inv (i + 1), ct := Inv (i + 1), bk := D.nx }) ∧ (∀ ss1 O1, Inv ks.length ss1 O1 → D.nx ss1 O1))
    (hx : X.N[v]? = some x := by rfl) (hl : Loc X.env.scope x := by first | exact Or.inl rfl | exact Or.inr rfl) (hfx : X.fn x = true ∨ X.env.scope.names.lookup x = some .local := by first | exact .inl rfl | exact .inr rfl) (hp : PassesOwn (model X.prog X.w) X.A X.env X.xe := by exact passes_of rfl) (hc : X.calm = true := by rfl)
    (hs : ∀ x, foldedSetIterable iter X.env x = pure x := by intro _; rfl) : S1 X R (.For (.Name x px) iter body [] pos) ss O D := fun G0 H0 G H σ S L E s => by
  refine wS_of (ps_for hp hc (pi_list peW) (pg_name (i := v) hN hx hl (hf := hfx)) pssW hs) (he G0 H0 G H σ S L _ fun G1 H1 u k O' S1 e1 r1 ⟨pl, ks, hk, hm, Iv, h0, hn, hb, hd⟩ => ?_)
  subst hk
  have : u = .ref pl := r1
  subst this
  have get : ∀ {G H : Hp} {σ : L2.St} {ss : List Kd} {O : Store}, Sta G0 H0 G H σ ss O → (pl, Ob.okl ks) ∈ O → ∃ vs, H pl = some (.lst vs) ∧ Paired (KdAt G) vs ks := fun S hq => (S.ob _ hq).1
  obtain ⟨vs1, hv1, _⟩ := get S1 hm
  refine ⟨pl, rfl, ⟨vs1, .of hv1⟩, ?_⟩
  refine ⟨fun i m σ' H' => m = ks.length - i ∧ i ≤ ks.length ∧ ∃ ss' O' G', Sta G0 H0 G' H' σ' ss' O' ∧ Ex G1 G' ∧ Iv i ss' O', ⟨ks.length, by simp, Nat.zero_le _, ss, O', G1, S1, Ex.refl _, h0⟩, ?_⟩
  rintro i m σ' H' ⟨rfl, hi, ss', O2, G', S', e', iv⟩
  obtain ⟨vs, hv, rv⟩ := get S' (hn _ _ _ iv)
  have hlen := paired_len rv
  by_cases hlt : i < ks.length
  · obtain ⟨z, hz, rz⟩ := paired_get rv (List.getElem?_eq_getElem hlt)
    refine .inr ⟨⟨vs, z, .of hv, hz⟩, fun σ2 H2 => ∃ ss2 O3 G2, Sta G0 H0 G2 H2 σ2 ss2 O3 ∧ Ex G1 G2 ∧ Iv (i + 1) ss2 O3, fun σ2 H2 ⟨ss2, O3, G2, S2, e2, iv2⟩ => ⟨ks.length - (i + 1), by omega, rfl, by omega, ss2, O3, G2, S2, e2, iv2⟩, fun x H2 y => ?_⟩
    obtain ⟨rfl, y⟩ := y
    have ez := (y vs (.of hv)).symm.trans hz
    cases ez
    refine hb i ss' O2 _ (List.getElem?_eq_getElem hlt) iv G0 H0 G' H2 _ (S'.set v rz) L _ ⟨fun G4 H4 σ4 ss4 O4 S4 e4 p => ⟨ss4, O4, G4, S4, e'.trans e4, p⟩, fun G4 H4 σ4 ss4 v k O4 S4 e4 r p => s.rt G4 H4 σ4 ss4 v k O4 S4 ((e1.trans e').trans e4) r p,
      fun G4 H4 σ4 ss4 O4 S4 e4 p => s.nx G4 H4 σ4 ss4 O4 S4 ((e1.trans e').trans e4) p, fun G4 H4 σ4 ss4 O4 S4 e4 p => ⟨ss4, O4, G4, S4, e'.trans e4, p⟩⟩
  · have e : i = ks.length := by omega
    subst e
    exact .inl ⟨⟨vs, .of hv, Nat.le_of_eq hlen⟩, s.nx G' H' σ' ss' O2 S' (e1.trans e') (hd _ _ iv)⟩
/-! ### bags -/
abbrev dN (ds : List Nat) : List PyData := ds.map fun (d : Nat) => PyData.int (d : Int)
abbrev BagO (ds : List Nat) (i : Nat) : Ob := .ol [.list (dN ds), .int i]
def Gd (ds : List Nat) : Prop := ds.length = 400 ∧ ∀ d ∈ ds, d < 1000
abbrev bagRefs (bs : List (Addr × List Nat)) : List Kd := bs.map fun b => .val (.ref b.1)
abbrev bagObs (bs : List (Addr × List Nat)) : Store := bs.map fun b => (b.1, BagO b.2 0)
/-- for bag in _law_bags(..): each bag by itself; Gs: what the turns keep of the slots -/
theorem sj_bags (v : Nat) (Gs : List Kd → Prop) (hN : X.N.Nodup) (he : EJ X R iter ss O fun k O' => ∃ pl bs, k = .val (.ref pl) ∧ O' = (pl, .okl (bagRefs bs)) :: bagObs bs ∧ ∀ b ∈ bs, Gd b.2) (h0 : Gs ss)
    (hb : ∀ ss1 p ds, Gd ds → Gs ss1 → SJ X R body (ss1.set v (.val (.ref p))) [(p, BagO ds 0)] { nx := fun ss' _ => Gs ss', ct := fun ss' _ => Gs ss', rt := fun k _ => D.rt k [], bk := fun ss' _ => SJ X R rest ss' [] D }) (hd : ∀ ss1, Gs ss1 → SJ X R rest ss1 [] D)
    (hx : X.N[v]? = some x := by rfl) (hl : Loc X.env.scope x := by first | exact Or.inl rfl | exact Or.inr rfl) (hfx : X.fn x = true ∨ X.env.scope.names.lookup x = some .local := by first | exact .inl rfl | exact .inr rfl) (hp : PassesOwn (model X.prog X.w) X.A X.env X.xe := by exact passes_of rfl) (hc : X.calm = true := by rfl)
    (hs : ∀ x, foldedSetIterable iter X.env x = pure x := by intro _; rfl) : SJ X R (.For (.Name x px) iter body [] pos :: rest) ss O D := by
  refine sj_cons (s1_forJ v hN (EJ.imp he fun k O' ⟨pl, bs, h1, h2, h3⟩ => ?_) hx hl hfx hp hc hs)
  subst h1 h2
  refine ⟨pl, bagRefs bs, rfl, List.mem_cons_self, fun i ss' O' => Gs ss' ∧ O' = (pl, .okl (bagRefs bs)) :: bagObs (bs.drop i), ⟨h0, by rw [List.drop_zero]⟩, fun i ss O ⟨_, e⟩ => by rw [e]; exact List.mem_cons_self, ?_, ?_⟩
  · rintro i ss1 O1 k hk ⟨g, rfl⟩
    obtain ⟨b, hb1, rfl⟩ : ∃ b, bs[i]? = some b ∧ k = .val (.ref b.1) := by
      rw [List.getElem?_map] at hk
      cases h : bs[i]? with
      | none => rw [h] at hk; cases hk
      | some b => rw [h] at hk; exact ⟨b, rfl, (Option.some.inj hk).symm⟩
    obtain ⟨hlt, hg⟩ := List.getElem?_eq_some_iff.mp hb1
    have ed : bs.drop i = b :: bs.drop (i + 1) := by rw [List.drop_eq_getElem_cons hlt, hg]
    have hbd := hb ss1 b.1 b.2 (h3 b (List.mem_of_getElem? hb1)) g
    have hf := SJ.frame hbd ((pl, .okl (bagRefs bs)) :: bagObs (bs.drop (i + 1)))
    rw [ed]
    refine SJ.lt ?_
    refine SJ.less (O' := ((pl, .okl (bagRefs bs)) :: bagObs (bs.drop (i + 1))) ++ [(b.1, BagO b.2 0)]) ?_ (fun q hq => ?_) (fun hnd => ?_)
    · refine hf.imp ?_ ?_ ?_ ?_
      · rintro ss' O' ⟨O2, rfl, g⟩
        exact ⟨_, List.sublist_append_left _ _, g, rfl⟩
      · rintro k O' ⟨O2, rfl, g⟩
        exact ⟨[], List.nil_sublist _, g⟩
      · rintro ss' O' ⟨O2, rfl, g⟩
        exact ⟨[], List.nil_sublist _, g⟩
      · rintro ss' O' ⟨O2, rfl, g⟩
        exact ⟨_, List.sublist_append_left _ _, g, rfl⟩
    · rcases List.mem_append.mp hq with hq | hq
      · rcases List.mem_cons.mp hq with hq | hq
        · rw [hq]; exact List.mem_cons_self
        · exact List.mem_cons_of_mem _ (List.mem_cons_of_mem _ hq)
      · rw [List.mem_singleton.mp hq]
        exact List.mem_cons_of_mem _ List.mem_cons_self
    · have p : ((((pl, Ob.okl (bagRefs bs)) :: bagObs (bs.drop (i + 1))) ++ [(b.1, BagO b.2 0)]).map (·.1)).Perm (((pl, Ob.okl (bagRefs bs)) :: bagObs (b :: bs.drop (i + 1))).map (·.1)) := by
        refine List.Perm.map _ ?_
        refine (List.perm_append_singleton _ _).trans ?_
        exact List.Perm.swap _ _ _
      exact p.nodup_iff.mpr hnd
  · rintro ss1 O1 ⟨g, rfl⟩
    refine SJ.less (hd ss1 g) (fun _ h => (nomatch h)) (fun _ => List.nodup_nil)
/-- [a, b, ..], judged -/
theorem ej_lst (h : AJ X R es ss O fun ks O' => ∃ ds : List PyData, ks = ds.map .dat ∧ ds.length ≤ 16777216 ∧ ∀ p, Φ (.val (.ref p)) ((p, .ol ds) :: O')) : EJ X R (.List es pos) ss O Φ :=
  fun G0 H0 G H σ S L Q q => wE_of (pe_lst paW) (h G0 H0 G H σ S L _ fun G1 H1 vs k1 O1 S1 e1 r1 ⟨ds, h1, h2, h3⟩ => by
    subst h1
    have r := kinds_dp r1
    refine ⟨by rw [dpAll_len r, sizeLine_eq]; exact h2, fun p hp => ?_⟩
    exact q.v (S1.new hp (b := .ol ds) ⟨vs, upd_same, r⟩) e1 (h3 p))
/-- a call, an object of the store lent, wherever it stands -/
theorem ej_calM {q : Addr × Ob} {n m : Nat} {ps : List Str} {T : DSp} {x : Str} {p : Pos} (C : Cal X.prog X.w X.K X.mg X.base x n ps T) (hr : Room m X.A) (hl : n ≤ m) (ha : AV X R (e :: es) ss O ks O1) (hq : q ∈ O1) (hT : ∀ F, O1.Perm (q :: F) → T ks [q] (fun r B' => Φ r (B' ++ F)) R) (hg : Gl X x := by rfl)
    (hdb : (x == ("__debug__" : Str)) = false := by decide) (he : starEach (e :: es) X.env = (false, eval e X.env) :: starEach es X.env := by exact star_ne rfl) (hpl : (backTo pos (starEach es X.env)).any (·.1) = false := by rfl) : EJ X R (.Call (.Name x p) (e :: es) [] pos) ss O Φ := by
  obtain ⟨f, fd, a, b, c, d⟩ := C.ex
  obtain ⟨s, t, e⟩ := List.append_of_mem hq
  refine ej_call (dk := []) (d.mono hl) hr hg a b c .nil (fun _ => .nil) ha (fun ks' O' ⟨e1, e2⟩ => ?_) hdb he hpl
  rw [e1, e2]
  have pm : O1.Perm (q :: (s ++ t)) := by rw [e]; exact List.perm_middle
  exact ⟨[q], s ++ t, pm, by rw [List.append_nil]; exact hT _ pm⟩
/-- a call, a part of the store lent -/
theorem ej_calP {B F : Store} {n m : Nat} {ps : List Str} {T : DSp} {x : Str} {p : Pos} (C : Cal X.prog X.w X.K X.mg X.base x n ps T) (hr : Room m X.A) (hl : n ≤ m) (ha : AV X R (e :: es) ss O ks O1) (pm : O1.Perm (B ++ F)) (hT : T ks B (fun r B' => Φ r (B' ++ F)) R) (hg : Gl X x := by rfl)
    (hdb : (x == ("__debug__" : Str)) = false := by decide) (he : starEach (e :: es) X.env = (false, eval e X.env) :: starEach es X.env := by exact star_ne rfl) (hpl : (backTo pos (starEach es X.env)).any (·.1) = false := by rfl) : EJ X R (.Call (.Name x p) (e :: es) [] pos) ss O Φ := by
  obtain ⟨f, fd, a, b, c, d⟩ := C.ex
  refine ej_call (dk := []) (d.mono hl) hr hg a b c .nil (fun _ => .nil) ha (fun ks' O' ⟨e1, e2⟩ => ?_) hdb he hpl
  rw [e1, e2]
  exact ⟨B, F, pm, by rw [List.append_nil]; exact hT⟩
theorem ev_t {x : Str} {n : String} (hm : X.mg x = none) (hv : bootBuiltins x = some (.type n)) (hg : Gl X x := by rfl) (hn : x ≠ "__name__" := by decide) (hd : (x == ("__debug__" : Str)) = false := by decide) : EV X R (.Name x pos) ss O (.val (.ty n)) O := ev_ty hg hm hv hn hd
end
end Dl
end
section
/-! set comprehensions of texts, two clauses -/
namespace Dl
open PySem PySem.Spec PyProof.Rows L2
section
variable {X : Cx}
theorem addT_ok {pins : List (Addr × Obj)} {σ : L2.St} {H : Hp} {s : Shared} {E : Value → Shared → Prop} {D : Addr} {S : Str → Bool} {n : Nat} {k : Str} {u : Tok} {Q : Value → Shared → Prop} (I : Inv X pins σ H s) (hD : H D = some (TxO X.w D S n)) (room : n + 1 < scanBound)
    (h : ∀ s', Inv X pins σ (upd H D (TxO X.w D (fun j => S j || decide (j = k)) (if S k = true then n else n + 1))) s' → Q .none s') : wpAny (model X.prog X.w) X.A (call (.builtin "set.add") [.ref D, .str k u]) Q E s := by
  have R : TxSet X.w s.heap D S n := (I.hok D _ hD).1
  refine tx_add R room fun h' tk sb new => ?_
  have he : ∃ u, h'.get? D = some u := by
    obtain ⟨o, _, _, _, ho, _⟩ := new.ex
    exact ⟨o, ho⟩
  exact h _ (I.write (e := D) (t' := tk) (by rw [hD]; trivial) (.inl rfl) (fun b u hb hu => (sb.2 b hb).trans hu) he (txO_new new))
end
theorem compTurn2_outS (elt t0 i0 t1 i1 : Expr) (ifs0 ifs1 : List Expr) (scope : Scope) (pos : Pos) (it acc : Value) (env : Env) :
    compTurn (.SetComp elt [⟨t0, i0, ifs0, 0⟩, ⟨t1, i1, ifs1, 0⟩] scope pos) 0 it acc env = (do
      standAt i0.pos
      match ← pyNext it with
      | none => pure (.done .next)
      | some v =>
        letOwnedTupleGo t0 it v
        assign t0 env v
        let mut ok := true
        for c in ifs0 do
          if ok then ok ← isTrue c env (eval c env)
        if ok then
          let x ← eval i1 env
          standAt i1.pos
          let x ← foldedSetIterable i1 env x
          let _ ← runOwn (.compStart (.SetComp elt [⟨t0, i0, ifs0, 0⟩, ⟨t1, i1, ifs1, 0⟩] scope pos) 1 (← holding [x] (pyIter x)) acc env) env
        again (.compLoop (.SetComp elt [⟨t0, i0, ifs0, 0⟩, ⟨t1, i1, ifs1, 0⟩] scope pos) 0 it acc env)) := by rfl
theorem compTurn2_inS (elt t0 i0 t1 i1 : Expr) (ifs0 ifs1 : List Expr) (scope : Scope) (pos : Pos) (it acc : Value) (env : Env) :
    compTurn (.SetComp elt [⟨t0, i0, ifs0, 0⟩, ⟨t1, i1, ifs1, 0⟩] scope pos) 1 it acc env = (do
      standAt i1.pos
      match ← pyNext it with
      | none => pure (.done .next)
      | some v =>
        letOwnedTupleGo t1 it v
        assign t1 env v
        let mut ok := true
        for c in ifs1 do
          if ok then ok ← isTrue c env (eval c env)
        if ok then
          (do let v ← eval elt env; standAt elt.pos; let _ ← call (.builtin "set.add") [acc, v])
        again (.compLoop (.SetComp elt [⟨t0, i0, ifs0, 0⟩, ⟨t1, i1, ifs1, 0⟩] scope pos) 1 it acc env)) := by rfl

section
variable {prog : Program} {w : World} {A : Around} {R : Result → Shared → Prop} {s : Shared} {elt t0 i0 t1 i1 : Expr} {ifs0 ifs1 : List Expr} {scope : Scope} {pos : Pos} {it acc : Value} {env : Env}
/-- the loop of the first clause -/
theorem compLoop2_outS (hs : ∀ x, foldedSetIterable i1 env x = pure x) (I : Nat → Shared → Prop)
    (turn : ∀ n s, I n s → wpAny (model prog w) A (pyNext it) (fun r s₁ => match r with
      | none => R (.ok .next) s₁
      | some v => wpAny (model prog w) A (letOwnedTupleGo t0 it v) (fun _ s₁' => wpAny (model prog w) A (assign t0 env v) (fun _ s₂ =>
          wpAny (model prog w) A (forIn ifs0 true fun c r => if r = true then do let ok ← isTrue c env (eval c env); pure (ForInStep.yield ok) else pure (ForInStep.yield r)) (fun ok s₃ =>
            if ok = true then wpAny (model prog w) A (eval i1 env) (fun x s₄ => wpAny (model prog w) A (pyIter x) (fun it1 s₅ =>
              codeAny (model prog w) A (.compStart (.SetComp elt [⟨t0, i0, ifs0, 0⟩, ⟨t1, i1, ifs1, 0⟩] scope pos) 1 it1 acc env) (fun r s' => match r with
                | .ok _ => ∃ m, m < n ∧ I m s'
                | .error _ => False) s₅) (notedBy (model prog w) A env fun e s' => R (.error e) s') s₄) (notedBy (model prog w) A env fun e s' => R (.error e) s') s₃
            else ∃ m, m < n ∧ I m s₃) (notedBy (model prog w) A env fun e s' => R (.error e) s') s₂) (notedBy (model prog w) A env fun e s' => R (.error e) s') s₁') (notedBy (model prog w) A env fun e s' => R (.error e) s') s₁) (notedBy (model prog w) A env fun e s' => R (.error e) s') s)
    (n : Nat) (h : I n s) :
    codeAny (model prog w) A (.compLoop (.SetComp elt [⟨t0, i0, ifs0, 0⟩, ⟨t1, i1, ifs1, 0⟩] scope pos) 0 it acc env) R s := by
  refine codeAny_loop rfl I (fun n s hI => ?_) n h
  show wpAny _ A ((compTurn (.SetComp elt [⟨t0, i0, ifs0, 0⟩, ⟨t1, i1, ifs1, 0⟩] scope pos) 0 it acc env).onRaise (fun x => do noteFrame x env; theTreesLotGoes x)) _ _ s
  refine wpAny_noted ?_
  rw [compTurn2_outS]
  refine wpAny_bind (wpAny_standAt (wpAny_bind (wpAny_mono (turn n s hI) (fun r s₁ h₁ => ?_) fun _ _ h' => h')))
  cases r with
  | none => exact wpAny_pure h₁
  | some v =>
    refine wpAny_bind (wpAny_mono h₁ (fun _ s₁' h₁' => ?_) fun _ _ h' => h')
    refine wpAny_bind (wpAny_mono h₁' (fun _ s₂ h₂ => wpAny_bind (wpAny_mono h₂ (fun ok s₃ h₃ => ?_) fun _ _ h' => h')) fun _ _ h' => h')
    cases ok with
    | false => exact wpAny_pure ⟨rfl, h₃⟩
    | true =>
      refine wpAny_bind (wpAny_mono h₃ (fun x s₄ h₄ => ?_) fun _ _ h' => h')
      refine wpAny_bind (wpAny_standAt (wpAny_bind (wpAny_of_eq (hs x) (wpAny_bind (wpAny_holding (wpAny_mono h₄ (fun it1 s₅ h₅ => ?_) fun _ _ h' => h'))))))
      refine wpAny_bind (wpAny_runOwn ?_)
      rw [Around.mark_none]
      refine codeAny_mono h₅ fun r s' hr => ?_
      cases r with
      | ok f =>
        first
          | exact wpAny_pure ⟨rfl, hr⟩
          | exact wpAny_bind (wpAny_pure (wpAny_pure ⟨rfl, hr⟩))
      | error e => exact hr.elim
/-- the loop of the second -/
theorem compLoop2_inS (I : Nat → Shared → Prop)
    (turn : ∀ n s, I n s → wpAny (model prog w) A (pyNext it) (fun r s₁ => match r with
      | none => R (.ok .next) s₁
      | some v => wpAny (model prog w) A (letOwnedTupleGo t1 it v) (fun _ s₁' => wpAny (model prog w) A (assign t1 env v) (fun _ s₂ =>
          wpAny (model prog w) A (forIn ifs1 true fun c r => if r = true then do let ok ← isTrue c env (eval c env); pure (ForInStep.yield ok) else pure (ForInStep.yield r)) (fun ok s₃ =>
            if ok = true then wpAny (model prog w) A (eval elt env) (fun x s₄ =>
              wpAny (model prog w) A (call (.builtin "set.add") [acc, x]) (fun _ s₅ => ∃ m, m < n ∧ I m s₅) (notedBy (model prog w) A env fun e s' => R (.error e) s') s₄) (notedBy (model prog w) A env fun e s' => R (.error e) s') s₃
            else ∃ m, m < n ∧ I m s₃) (notedBy (model prog w) A env fun e s' => R (.error e) s') s₂) (notedBy (model prog w) A env fun e s' => R (.error e) s') s₁') (notedBy (model prog w) A env fun e s' => R (.error e) s') s₁) (notedBy (model prog w) A env fun e s' => R (.error e) s') s)
    (n : Nat) (h : I n s) :
    codeAny (model prog w) A (.compLoop (.SetComp elt [⟨t0, i0, ifs0, 0⟩, ⟨t1, i1, ifs1, 0⟩] scope pos) 1 it acc env) R s := by
  refine codeAny_loop rfl I (fun n s hI => ?_) n h
  show wpAny _ A ((compTurn (.SetComp elt [⟨t0, i0, ifs0, 0⟩, ⟨t1, i1, ifs1, 0⟩] scope pos) 1 it acc env).onRaise (fun x => do noteFrame x env; theTreesLotGoes x)) _ _ s
  refine wpAny_noted ?_
  rw [compTurn2_inS]
  refine wpAny_bind (wpAny_standAt (wpAny_bind (wpAny_mono (turn n s hI) (fun r s₁ h₁ => ?_) fun _ _ h' => h')))
  cases r with
  | none => exact wpAny_pure h₁
  | some v =>
    refine wpAny_bind (wpAny_mono h₁ (fun _ s₁' h₁' => ?_) fun _ _ h' => h')
    refine wpAny_bind (wpAny_mono h₁' (fun _ s₂ h₂ => wpAny_bind (wpAny_mono h₂ (fun ok s₃ h₃ => ?_) fun _ _ h' => h')) fun _ _ h' => h')
    cases ok with
    | false => exact wpAny_pure ⟨rfl, h₃⟩
    | true =>
      exact wpAny_bind (wpAny_bind (wpAny_mono h₃ (fun x s₄ h₄ => wpAny_bind (wpAny_standAt (wpAny_bind (wpAny_mono h₄ (fun _ s₅ h₅ => wpAny_pure (wpAny_pure ⟨rfl, h₅⟩)) fun _ _ h' => h')))) fun _ _ h' => h'))
/-- the second clause's start -/
theorem compStart1_okS (h0 : codeAny (model prog w) A (.compLoop (.SetComp elt [⟨t0, i0, ifs0, 0⟩, ⟨t1, i1, ifs1, 0⟩] scope pos) 1 it acc env) R s)
    (h : wpAny (model prog w) A (pyIter it) (fun it' s' => codeAny (model prog w) A (.compLoop (.SetComp elt [⟨t0, i0, ifs0, 0⟩, ⟨t1, i1, ifs1, 0⟩] scope pos) 1 it' acc env) R s')
      (notedBy (model prog w) A env fun x s' => R (.error x) s') s) :
    codeAny (model prog w) A (.compStart (.SetComp elt [⟨t0, i0, ifs0, 0⟩, ⟨t1, i1, ifs1, 0⟩] scope pos) 1 it acc env) R s := by
  refine codeAny_of_tree ?_
  show wpAny _ _ ((compStart (.SetComp elt [⟨t0, i0, ifs0, 0⟩, ⟨t1, i1, ifs1, 0⟩] scope pos) 1 it acc env).onRaise (fun x => do noteFrame x env; standAt theWindowsPlace)) _ _ s
  refine wpAny_notedAt ?_
  unfold compStart
  show wpAny _ _ (ask >>= _) _ _ s
  refine wpAny_bind (wpAny_askSetting (wpAny_ite ?_))
  split
  · first
      | exact wpAny_bind (wpAny_pure (wpAny_pure (And.intro rfl h0)))
      | exact wpAny_pure (And.intro rfl h0)
  · first
      | exact wpAny_bind (wpAny_rule (wpAny_bind (wpAny_standAt (wpAny_bind (wpAny_mono h (fun it' s' h' => wpAny_pure (And.intro rfl h')) fun _ _ x => x)))))
      | (refine wpAny_bind (wpAny_rule ?_); show wpAny _ _ (standAt i1.pos >>= _) _ _ s; exact wpAny_bind (wpAny_standAt (wpAny_bind (wpAny_mono h (fun it' s' h' => wpAny_pure (And.intro rfl h')) fun _ _ x => x))))
end

section
variable {X : Cx}
/-- [elt for tg in iter if .. for tg1 in iter1 if ..]: behind the first clause's store and tests the second source's own loop, from which Nx is reached. vs: the block's names; vs1: those of the second target -/
def tSc2 (w : World) (wi : TI) (g : TG) (tt : TT) (wi1 : TI) (g1 : TG) (tt1 : TT) (te : TE) (vs vs1 : List Nat) : TE := fun σ H Q => wi σ H fun J H1 => ∀ D, H1 D = none → ∃ W : Nat → Nat → Hp → Prop, (∃ m, W 0 m (upd H1 D (TxO w D (fun _ => false) 0))) ∧ ∀ i m H, W i m H →
  (J.stop i H ∧ Q (.ref D) H) ∨ (J.go i H ∧ ∃ Nx : Hp → Prop, (∀ H', Nx H' → ∃ m', m' < m ∧ W (i + 1) m' H') ∧ ∀ x H', J.yld i H x H' → g x (wipe σ vs) H' fun σ2 H2 => wipe σ2 vs = wipe σ vs ∧ tt σ2 H2 fun b H3 =>
    if b = true then wi1 σ2 H3 fun J1 H4 => ∃ W1 : Nat → Nat → Hp → Prop, (∃ m, W1 0 m H4) ∧ ∀ j k H, W1 j k H →
      (J1.stop j H ∧ Nx H) ∨ (J1.go j H ∧ ∃ Nx1 : Hp → Prop, (∀ H', Nx1 H' → ∃ k', k' < k ∧ W1 (j + 1) k' H') ∧ ∀ x H', J1.yld j H x H' → g1 x (wipe σ2 vs1) H' fun σ3 H5 => wipe σ3 vs1 = wipe σ2 vs1 ∧ tt1 σ3 H5 fun b H6 =>
        if b = true then te σ3 H6 fun y H7 => ∃ (k : Str) (S : Str → Bool) (n : Nat), y = .str k ∧ H7 D = some (TxO w D S n) ∧ n + 1 < scanBound ∧ Nx1 (upd H7 D (TxO w D (fun j => S j || decide (j = k)) (if S k = true then n else n + 1))) else Nx1 H6)
    else Nx H3)
theorem sc2_core {pins : List (Addr × Obj)} {s : Shared} {σ : L2.St} {H : Hp} {Q : VK} {elt tg iter tg1 iter1 : Expr} {ifs ifs1 : List Expr} {scope : Scope} {own : List (Str × Nat)} {vs1 : List Nat} {pos pos' : Pos} {wi wi1 : TI} {g g1 : TG} {tt tt1 : TT} {te : TE} {use : Option (Value → Sem Unit)} {Qf : Value → Shared → Prop}
    (hc : X.calm = true) (hN : X.N.Nodup) (I : Inv X pins σ H s) (hi : PI X tg iter wi) (ok : BlkOk X.N X.env.scope scope own) (hv : ∀ i ∈ vs1, i ∈ own.map (·.2))
    (hg : ∀ (s : Shared) (H : Hp) (C : Addr) (cl : List (Str × Addr)) (fp : List Addr), PG (X.blk s H scope (compEnvC scope cl C X.env) fp) tg g) (ht : ∀ (s : Shared) (H : Hp) (C : Addr) (cl : List (Str × Addr)) (fp : List Addr), PTs (X.blk s H scope (compEnvC scope cl C X.env) fp) ifs tt)
    (he : ∀ (s : Shared) (H : Hp) (C : Addr) (cl : List (Str × Addr)) (fp : List Addr), PE (X.blk s H scope (compEnvC scope cl C X.env) fp) elt te) (hs : ∀ x, foldedSetIterable iter X.env x = pure x)
    (hi1 : ∀ (s : Shared) (H : Hp) (C : Addr) (cl : List (Str × Addr)) (fp : List Addr), PI (X.blk s H scope (compEnvC scope cl C X.env) fp) tg1 iter1 wi1)
    (hg1 : ∀ (s : Shared) (H : Hp) (C : Addr) (cl : List (Str × Addr)) (fp : List Addr), PG (X.blk s H scope (compEnvC scope cl C X.env) fp) tg1 g1)
    (ht1 : ∀ (s : Shared) (H : Hp) (C : Addr) (cl : List (Str × Addr)) (fp : List Addr), PTs (X.blk s H scope (compEnvC scope cl C X.env) fp) ifs1 tt1)
    (hs1 : ∀ env x, foldedSetIterable iter1 env x = pure x)
    (h : tSc2 X.w wi g tt wi1 g1 tt1 te (own.map (·.2)) vs1 σ H Q)
    (hRR : ∀ D C s' m H', Inv X pins σ H' s' → Q (.ref D) H' → s'.heap.Ns C m → FpOk X pins H' C → compPost (model X.prog X.w) X.A X.xe use Qf (.ref D) C (.ok .next) s') :
    wpAny (model X.prog X.w) X.A (comprehension (.SetComp elt [⟨tg, iter, ifs, 0⟩, ⟨tg1, iter1, ifs1, 0⟩] scope pos) scope X.env pos' (newSet (.type "set")) false (eval iter X.env) use) Qf X.xe s := by
  have hfree : ∀ y ∈ scope.names, y.2 = .free → ∃ c, X.env.cells.lookup y.1 = some c := fun y hy e => by
    rcases ok.free y hy e with k | k
    · exact I.ok.has _ (.inl k)
    · exact I.ok.has _ (.inr k)
  refine wpAny_comprehension_free (use := use) rfl hs (closure_ok hfree) ok.kind (fun y hy e => by rw [ok.uniq y hy, e])
    (thn (hi.run pins s σ H _ I h) fun xv s1 hx => thn hx fun itv s2 h2 => ?_)
  obtain ⟨it, fp, tn, J, H2, e, I2, T, st2, f2, q⟩ := h2
  subst e
  refine PpSet.newSet_ok (newEnv_comp ?_)
  generalize hD : s2.heap.objs.size = D
  have hDn : H2 D = none := I2.hok.fresh (Nat.le_of_eq hD)
  obtain ⟨W, ⟨m0, w0⟩, turn⟩ := q D hDn
  -- the new list
  generalize hs3 : ({ s2 with heap := s2.heap.push (newSetO X.w) } : Shared) = s3
  have I3 : Inv X pins σ (upd H2 D (TxO X.w D (fun _ => false) 0)) s3 := by
    rw [← hs3]
    refine I2.laid (t' := s2.toks) (fun b o e => Heap.get?_push_of_some _ e) (Nat.le_of_eq hD) ?_
    rw [← hD]
    exact txO_new (tx_fresh (Heap.get?_push_size _ rfl))
  have h3 : s3.heap = s2.heap.push (newSetO X.w) := by rw [← hs3]
  have sz : ∀ b ∈ fp, b < s2.heap.objs.size := fun b hb => by
    obtain ⟨o, e, _⟩ := T.obj _ _ st2 b hb
    exact Heap.lt_size e
  have f3 : ∀ b ∈ fp, FpOk X pins (upd H2 D (TxO X.w D (fun _ => false) 0)) b ∧ b < s3.heap.objs.size := fun b hb => by
    have hlt := sz b hb
    refine ⟨⟨?_, (f2 b hb).2⟩, by rw [h3, Heap.size_push]; exact Nat.lt_succ_of_lt hlt⟩
    rw [upd_ne (by rw [← hD]; exact Nat.ne_of_lt hlt)]
    exact (f2 b hb).1
  have st3 : tn 0 s3.heap := T.keep _ _ _ st2 fun b _ o e => by rw [h3]; exact Heap.get?_push_of_some _ e
  have I4 := block_start I3 ok hN f3
  have pg := hg s3 (upd H2 D (TxO X.w D (fun _ => false) 0)) s3.heap.objs.size (cellsFrom (s3.heap.objs.size + 1) scope.names (cloFrom X.env.cells scope.names [])) fp
  have pt := ht s3 (upd H2 D (TxO X.w D (fun _ => false) 0)) s3.heap.objs.size (cellsFrom (s3.heap.objs.size + 1) scope.names (cloFrom X.env.cells scope.names [])) fp
  have pe := he s3 (upd H2 D (TxO X.w D (fun _ => false) 0)) s3.heap.objs.size (cellsFrom (s3.heap.objs.size + 1) scope.names (cloFrom X.env.cells scope.names [])) fp
  have pi1 := hi1 s3 (upd H2 D (TxO X.w D (fun _ => false) 0)) s3.heap.objs.size (cellsFrom (s3.heap.objs.size + 1) scope.names (cloFrom X.env.cells scope.names [])) fp
  have pg1 := hg1 s3 (upd H2 D (TxO X.w D (fun _ => false) 0)) s3.heap.objs.size (cellsFrom (s3.heap.objs.size + 1) scope.names (cloFrom X.env.cells scope.names [])) fp
  have pt1 := ht1 s3 (upd H2 D (TxO X.w D (fun _ => false) 0)) s3.heap.objs.size (cellsFrom (s3.heap.objs.size + 1) scope.names (cloFrom X.env.cells scope.names [])) fp
  show codeAny _ _ (.compStart (.SetComp elt [⟨tg, iter, ifs, 0⟩, ⟨tg1, iter1, ifs1, 0⟩] scope pos) 0 (.ref it) (.ref D) (compEnvC scope (cellsFrom (s3.heap.objs.size + 1) scope.names (cloFrom X.env.cells scope.names [])) s3.heap.objs.size X.env)) (compPost (model X.prog X.w) X.A X.xe use Qf (.ref D) s3.heap.objs.size) { s3 with heap := pushCells (s3.heap.push { cls := .type "dict", data := .dict #[] }) scope.names }
  have nfp : ∀ b ∈ fp, (upd H2 D (TxO X.w D (fun _ => false) 0)) b = none := fun b hb => (f3 b hb).1.1
  generalize hce : compEnvC scope (cellsFrom (s3.heap.objs.size + 1) scope.names (cloFrom X.env.cells scope.names [])) s3.heap.objs.size X.env = ce at I4 pg pt pe pi1 pg1 pt1 ⊢
  have cL : ce.locals = s3.heap.objs.size := by subst hce; rfl
  generalize hH3 : upd H2 D (TxO X.w D (fun _ => false) 0) = H3 at I3 I4 pg pt pe pi1 pg1 pt1 w0 nfp f3
  generalize hs4 : ({ s3 with heap := pushCells (s3.heap.push { cls := .type "dict", data := .dict #[] }) scope.names } : Shared) = s4 at I4 ⊢
  have st4 : tn 0 s4.heap := T.keep _ _ _ st3 fun b _ o e => by rw [← hs4]; exact pushCells_keeps _ _ _ _ (Heap.get?_push_of_some _ e)
  have stat : ∀ {σ' : L2.St} {H' : Hp} {s' : Shared}, Inv (X.blk s3 H3 scope ce fp) [] σ' H' s' → (∀ b ∈ fp, H' b = none) → ∀ b ∈ fp, FpOk (X.blk s3 H3 scope ce fp) [] H' b := fun {σ' H' s'} I' hn b hb =>
    ⟨hn b hb, (I'.ok.exf b hb).1, I'.ok.exfs b hb, .inl hb, fun x c e => (I'.ok.exf b hb).2 x c e, fun p hp => absurd (show p ∈ ([] : List (Addr × Obj)) ++ [] from hp) (by simp)⟩
  have loop : codeAny (model X.prog X.w) X.A (.compLoop (.SetComp elt [⟨tg, iter, ifs, 0⟩, ⟨tg1, iter1, ifs1, 0⟩] scope pos) 0 (.ref it) (.ref D) ce) (compPost (model X.prog X.w) X.A X.xe use Qf (.ref D) s3.heap.objs.size) s4 := by
    refine compLoop2_outS (hs1 ce) (fun n s' => ∃ i H', Inv (X.blk s3 H3 scope ce fp) [] (wipe σ (own.map (·.2))) H' s' ∧ tn i s'.heap ∧ (∀ b ∈ fp, H' b = none) ∧ W i n H') ?_ m0 ⟨0, H3, I4, st4, nfp, w0⟩
    rintro n s5 ⟨i, H5, I5, st5, n5, w5⟩
    rcases turn i n H5 w5 with ⟨stop, qq⟩ | ⟨go, Nx, hNx, step⟩
    · have td := T.done (X.blk s3 H3 scope ce fp) rfl rfl rfl hc i [] s5 _ H5 (fun _ _ => False) I5 (stat I5 n5) st5 stop
      refine thnF td fun r s6 ⟨hr, I6⟩ => ?_
      subst hr
      -- back in the def's context
      have I7 : Inv X pins σ H5 s6 := I3.call' (ch := fp) I6.os I6.base I6.hok I6.bare fun b hb => ⟨(f3 b hb).1.2.2.2.1, (f3 b hb).1.2.1, (f3 b hb).1.2.2.2.2.1, (f3 b hb).1.2.2.2.2.2⟩
      have nC : H5 s3.heap.objs.size = none := by
        have z : H5 ce.locals = none := I6.free
        rw [cL] at z
        exact z
      obtain ⟨m, hn, _⟩ := I6.loc
      have hn : s6.heap.Ns ce.locals m := hn
      rw [cL] at hn
      exact hRR D s3.heap.objs.size s6 m H5 I7 qq hn (I3.fpOk (Nat.le_refl _) nC)
    · have ti := T.item (X.blk s3 H3 scope ce fp) rfl rfl rfl hc i [] s5 _ H5 (fun _ _ => False) I5 (stat I5 n5) st5 go
      refine thnF ti fun r s6 ⟨u, hr, h6⟩ => ?_
      subst hr
      refine thnF h6 fun _ s7 ⟨x, H7, I7, r7, y7, st7, n7⟩ => ?_
      have I7' := I7.pinned (stat I7 n7) (T.obj _ _ st7)
      refine thnF (pg.run _ s7 _ H7 x u _ I7' r7 (step x H7 y7)) fun _ s8 ⟨σ8, H8, I8, hw8, q8⟩ => ?_
      refine thnF (pt.run _ s8 σ8 H8 _ I8 q8) fun b s9 ⟨H9, I9, q9⟩ => ?_
      -- the turn's end, from any slots that know what the block knew at its start
      have fin : ∀ {σ9 : L2.St} {s' : Shared} {H' : Hp}, Inv (X.blk s3 H3 scope ce fp) ([] ++ pinsAt fp s7.heap) σ9 H' s' → (wipe σ (own.map (·.2))).length = σ9.length → (∀ (j : Nat) v, (wipe σ (own.map (·.2)))[j]? = some (some v) → σ9[j]? = some (some v)) → Nx H' →
          ∃ m, m < n ∧ ∃ i H', Inv (X.blk s3 H3 scope ce fp) [] (wipe σ (own.map (·.2))) H' s' ∧ tn i s'.heap ∧ (∀ b ∈ fp, H' b = none) ∧ W i m H' := fun {σ9 s' H'} I' hl hk nx => by
        obtain ⟨m', hm, w'⟩ := hNx H' nx
        have pin' : ∀ b ∈ fp, ∀ o, s7.heap.get? b = some o → s'.heap.get? b = some o ∧ H' b = none := fun b hb o e =>
          let z := I'.pin (b, o) (List.mem_append_right _ (List.mem_append_right _ (mem_pinsAt hb e)))
          ⟨z.1, z.2.1⟩
        refine ⟨m', hm, i + 1, H', (I'.unpinned (pins := [])).weak hl hk, T.keep _ _ _ st7 fun b hb o e => (pin' b hb o e).1, fun b hb => ?_, w'⟩
        obtain ⟨o, e, _⟩ := T.obj _ _ st7 b hb
        exact (pin' b hb o e).2
      have hl8 : (wipe σ (own.map (·.2))).length = σ8.length := by rw [← hw8, wipe_length]
      have hk8 : ∀ (j : Nat) v, (wipe σ (own.map (·.2)))[j]? = some (some v) → σ8[j]? = some (some v) := fun j v e => by
        rw [← hw8] at e
        exact (wipe_some e).1
      have hk9 : ∀ (j : Nat) v, (wipe σ (own.map (·.2)))[j]? = some (some v) → (wipe σ8 vs1)[j]? = some (some v) := fun j v e => by
        rw [← hw8] at e
        obtain ⟨e1, e2⟩ := wipe_some e
        rw [wipe_out fun z => e2 (hv j z)]
        exact e1
      cases b with
      | false =>
        simp only [Bool.false_eq_true, if_false] at q9 ⊢
        exact fin I9 hl8 hk8 q9
      | true =>
        simp only [if_true] at q9 ⊢
        refine thnF (pi1.run _ s9 σ8 H9 _ I9 q9) fun xv s10 hx => thnF hx fun itv s11 h11 => ?_
        obtain ⟨it1, fp1, tn1, J1, H11, e1, I11, T1, st11, f11, W1, ⟨m1, w1⟩, turn1⟩ := h11
        subst e1
        -- the inner loop
        have stat1 : ∀ {H' : Hp}, (∀ b ∈ fp1, H' b = none) → ∀ b ∈ fp1, FpOk (X.blk s3 H3 scope ce fp) ([] ++ pinsAt fp s7.heap) H' b := fun hn b hb => ⟨hn b hb, (f11 b hb).2⟩
        have loop1 : codeAny (model X.prog X.w) X.A (.compLoop (.SetComp elt [⟨tg, iter, ifs, 0⟩, ⟨tg1, iter1, ifs1, 0⟩] scope pos) 1 (.ref it1) (.ref D) ce)
            (fun r s' => match r with
              | .ok _ => ∃ m, m < n ∧ ∃ i H', Inv (X.blk s3 H3 scope ce fp) [] (wipe σ (own.map (·.2))) H' s' ∧ tn i s'.heap ∧ (∀ b ∈ fp, H' b = none) ∧ W i m H'
              | .error _ => False) s11 := by
          refine compLoop2_inS (fun k s' => ∃ j H', Inv (X.blk s3 H3 scope ce fp) ([] ++ pinsAt fp s7.heap) (wipe σ8 vs1) H' s' ∧ tn1 j s'.heap ∧ (∀ b ∈ fp1, H' b = none) ∧ W1 j k H') ?_ m1 ⟨0, H11, I11.weak (wipe_length _ _) (fun j v e => (wipe_some e).1), st11, fun b hb => (f11 b hb).1, w1⟩
          rintro k s12 ⟨j, H12, I12, st12, n12, w12⟩
          rcases turn1 j k H12 w12 with ⟨stop1, nx1⟩ | ⟨go1, Nx1, hNx1, step1⟩
          · refine thnF (T1.done (X.blk s3 H3 scope ce fp) rfl rfl rfl hc j _ s12 (wipe σ8 vs1) H12 (fun _ _ => False) I12 (stat1 n12) st12 stop1) fun r s13 ⟨hr, I13⟩ => ?_
            subst hr
            exact fin I13 (hl8.trans (wipe_length σ8 vs1).symm) hk9 nx1
          · refine thnF (T1.item (X.blk s3 H3 scope ce fp) rfl rfl rfl hc j _ s12 (wipe σ8 vs1) H12 (fun _ _ => False) I12 (stat1 n12) st12 go1) fun r s13 ⟨u1, hr, h13⟩ => ?_
            subst hr
            refine thnF h13 fun _ s14 ⟨x1, H14, I14, r14, y14, st14, n14⟩ => ?_
            have I14' := I14.pinned (stat1 n14) (T1.obj _ _ st14)
            refine thnF (pg1.run _ s14 (wipe σ8 vs1) H14 x1 u1 _ I14' r14 (step1 x1 H14 y14)) fun _ s15 ⟨σ15, H15, I15, hw15, q15⟩ => ?_
            refine thnF (pt1.run _ s15 σ15 H15 _ I15 q15) fun b1 s16 ⟨H16, I16, q16⟩ => ?_
            have fin1 : ∀ {s' : Shared} {H' : Hp}, Inv (X.blk s3 H3 scope ce fp) (([] ++ pinsAt fp s7.heap) ++ pinsAt fp1 s14.heap) σ15 H' s' → Nx1 H' → ∃ m, m < k ∧ ∃ j H', Inv (X.blk s3 H3 scope ce fp) ([] ++ pinsAt fp s7.heap) (wipe σ8 vs1) H' s' ∧ tn1 j s'.heap ∧ (∀ b ∈ fp1, H' b = none) ∧ W1 j m H' := fun {s' H'} I' nx => by
              obtain ⟨m', hm, w'⟩ := hNx1 H' nx
              have pin' : ∀ b ∈ fp1, ∀ o, s14.heap.get? b = some o → s'.heap.get? b = some o ∧ H' b = none := fun b hb o e =>
                let z := I'.pin (b, o) (List.mem_append_right _ (List.mem_append_right _ (mem_pinsAt hb e)))
                ⟨z.1, z.2.1⟩
              refine ⟨m', hm, j + 1, H', I'.unpinned.weak (by rw [← hw15, wipe_length]) (fun j v e => by rw [← hw15] at e; exact (wipe_some e).1), T1.keep _ _ _ st14 fun b hb o e => (pin' b hb o e).1, fun b hb => ?_, w'⟩
              obtain ⟨o, e, _⟩ := T1.obj _ _ st14 b hb
              exact (pin' b hb o e).2
            cases b1 with
            | false =>
              simp only [Bool.false_eq_true, if_false] at q16 ⊢
              exact fin1 I16 q16
            | true =>
              simp only [if_true] at q16 ⊢
              refine thnF (pe.run _ s16 σ15 H16 _ I16 q16) fun z s17 ⟨yv, H17, I17, r17, kk, S0, n0, ey, hD17, hz17, nx⟩ => ?_
              subst ey
              obtain ⟨tk, rfl⟩ := r17
              exact addT_ok (X := X.blk s3 H3 scope ce fp) I17 hD17 hz17 fun s18 I18 => fin1 I18 nx
        exact compStart1_okS loop1 (T1.self X.A 0 _ _ _ st11 loop1)
  exact PpSet.codeAny_compStart_set loop (T.self X.A 0 _ _ _ st4 loop)
/-- as a value -/
theorem pe_sc2 {elt tg iter tg1 iter1 : Expr} {ifs ifs1 : List Expr} {scope : Scope} {own : List (Str × Nat)} {vs1 : List Nat} {pos : Pos} {wi wi1 : TI} {g g1 : TG} {tt tt1 : TT} {te : TE} (hc : X.calm = true) (hN : X.N.Nodup) (hi : PI X tg iter wi) (ok : BlkOk X.N X.env.scope scope own) (hv : ∀ i ∈ vs1, i ∈ own.map (·.2))
    (hg : ∀ (s : Shared) (H : Hp) (C : Addr) (cl : List (Str × Addr)) (fp : List Addr), PG (X.blk s H scope (compEnvC scope cl C X.env) fp) tg g) (ht : ∀ (s : Shared) (H : Hp) (C : Addr) (cl : List (Str × Addr)) (fp : List Addr), PTs (X.blk s H scope (compEnvC scope cl C X.env) fp) ifs tt)
    (hi1 : ∀ (s : Shared) (H : Hp) (C : Addr) (cl : List (Str × Addr)) (fp : List Addr), PI (X.blk s H scope (compEnvC scope cl C X.env) fp) tg1 iter1 wi1)
    (hg1 : ∀ (s : Shared) (H : Hp) (C : Addr) (cl : List (Str × Addr)) (fp : List Addr), PG (X.blk s H scope (compEnvC scope cl C X.env) fp) tg1 g1) (ht1 : ∀ (s : Shared) (H : Hp) (C : Addr) (cl : List (Str × Addr)) (fp : List Addr), PTs (X.blk s H scope (compEnvC scope cl C X.env) fp) ifs1 tt1)
    (he : ∀ (s : Shared) (H : Hp) (C : Addr) (cl : List (Str × Addr)) (fp : List Addr), PE (X.blk s H scope (compEnvC scope cl C X.env) fp) elt te) (hs : ∀ x, foldedSetIterable iter X.env x = pure x := by intro _; rfl) (hs1 : ∀ env x, foldedSetIterable iter1 env x = pure x := by intro _ _; rfl) :
    PE X (.SetComp elt [⟨tg, iter, ifs, 0⟩, ⟨tg1, iter1, ifs1, 0⟩] scope pos) (tSc2 X.w wi g tt wi1 g1 tt1 te (own.map (·.2)) vs1) := by
  refine ⟨fun pins s σ H Q I h => ?_⟩
  rw [PpSet.eval_SetComp]
  refine sc2_core hc hN I hi ok hv hg ht he hs hi1 hg1 ht1 hs1 h fun D C s' m H' I' q hn f => ⟨m, hn, fun h'' sb => ?_⟩
  obtain ⟨f0, f1, f2, f3, f4, f5⟩ := f
  exact ⟨.ref D, H', I'.turned (t' := s'.toks) (fun b o hb e => (sb.2 b hb).trans e) f0 f1 f3 f4 f5, rfl, q⟩
end
end Dl
end
section
/-! {elt for x in iter for y in tuple}, texts; sorted of it -/
namespace Dl
open PySem PySem.Spec PyProof.Rows L2
open Evl (Ex)
theorem walks_tup {K : PySem.W.Frag} {G : Hp} {p : Addr} {ds : List PyData} (r1 : DP G (.ref p) (.tuple ds)) : Walks (Itt K p) G ds.length (fun i => .dat (ds.getD i .none)) any := by
  obtain ⟨p', xs, e, g1, r⟩ := dp_tup r1
  cases e
  refine ⟨fun i G0 H0 G' H' σ ss O S2 e2 _ hi => ?_, fun i G0 H0 G' H' σ ss O x H2 S2 e2 _ hi y => ?_, fun G0 H0 G' H' σ ss O S2 e2 _ => ?_⟩
  · obtain ⟨v, hv, _⟩ := dpAll_get r (List.getElem?_eq_getElem hi)
    exact ⟨xs, v, g1.sq (e2.trans S2.gh), hv⟩
  · obtain ⟨rfl, y⟩ := y
    obtain ⟨v, hv, dv⟩ := dpAll_get r (List.getElem?_eq_getElem hi)
    have := (y xs (g1.sq (e2.trans S2.gh))).symm.trans hv
    cases this
    refine ⟨G', S2, Ex.refl _, ?_⟩
    show DP G' x (ds.getD i .none)
    rw [List.getD_eq_getElem?_getD, List.getElem?_eq_getElem hi]
    exact dp_ex e2 dv
  · exact ⟨xs, g1.sq (e2.trans S2.gh), Nat.le_of_eq (dps_len r)⟩
/-- the texts so far -/
def accS (f : Nat → Nat → Tx) (m : Nat → Nat) (i : Nat) : List Tx := (List.range i).flatMap fun i => (List.range (m i)).map (f i)
theorem accS_succ {f : Nat → Nat → Tx} {m : Nat → Nat} {i : Nat} : accS f m (i + 1) = accS f m i ++ (List.range (m i)).map (f i) := by
  unfold accS
  rw [List.range_succ, List.flatMap_append]
  simp
section
variable {X : Cx} {R : Addr → Prop} {e a b c elt iter iter1 : Expr} {es ifs : List Expr} {ss : List Kd} {O O1 O2 O3 O' : Store} {k ka kb : Kd} {ks : List Kd} {Φ Ψ : Kd → Store → Prop} {pos px py : Pos} {n : Nat} {item : Nat → Kd} {need : Store → Prop} {x y : Str} {scope : Scope}
abbrev TxOb (w : World) (p : Addr) (xs : List Tx) (c : Nat) : Ob := .raw (TxO w p (fun j => decide (j ∈ xs.map sL)) c)
theorem ej_sc2 (v u : Nat) (ds : Nat → List PyData) (f : Nat → Nat → Tx) (hvu : v ≠ u) (ok : BlkOk X.N X.env.scope scope [(x, v), (y, u)]) (hN : X.N.Nodup) (hc : X.calm = true) (hi : IJ X R (.Name x px) iter ss O n item any O1)
    (h1 : ∀ i, i < n → ∀ s H C cl fp, EV (Bk X scope s H C cl fp) No iter1 ((((ss.set u .und).set v .und).set v (item i))) O1 (.dat (.tuple (ds i))) O1)
    (h2 : ∀ i j, i < n → j < (ds i).length → ∀ s H C cl fp, EV (Bk X scope s H C cl fp) No elt (((((ss.set u .und).set v .und).set v (item i)).set u .und).set u (.dat ((ds i).getD j .none))) O1 (.dat (dS (f i j))) O1)
    (hm : (accS f (fun i => (ds i).length) n).length ≤ 1000) (hacc : ∀ i, i ≤ n → (accS f (fun i => (ds i).length) i).length ≤ (accS f (fun i => (ds i).length) n).length)
    (hx : X.N[v]? = some x := by rfl) (hlx : ∀ s H C cl fp, Loc (Bk X scope s H C cl fp).env.scope x := by intro _ _ _ _ _; first | exact Or.inl rfl | exact Or.inr rfl) (hfx : ∀ s H C cl fp, (Bk X scope s H C cl fp).fn x = true ∨ (Bk X scope s H C cl fp).env.scope.names.lookup x = some .local := by intro _ _ _ _ _; first | exact .inl rfl | exact .inr rfl)
    (hy : X.N[u]? = some y := by rfl) (hly : ∀ s H C cl fp, Loc (Bk X scope s H C cl fp).env.scope y := by intro _ _ _ _ _; first | exact Or.inl rfl | exact Or.inr rfl) (hfy : ∀ s H C cl fp, (Bk X scope s H C cl fp).fn y = true ∨ (Bk X scope s H C cl fp).env.scope.names.lookup y = some .local := by intro _ _ _ _ _; first | exact .inl rfl | exact .inr rfl)
    (hs : ∀ x, foldedSetIterable iter X.env x = pure x := by intro _; rfl) (hs1 : ∀ env x, foldedSetIterable iter1 env x = pure x := by intro _ _; rfl) :
    EJ X R (.SetComp elt [⟨.Name x px, iter, [], 0⟩, ⟨.Name y py, iter1, [], 0⟩] scope pos) ss O fun k O' => ∃ p c, k = .val (.ref p) ∧ O' = (p, TxOb X.w p (accS f (fun i => (ds i).length) n) c) :: O1 := fun G0 H0 G H σ S L Q q => by
  obtain ⟨wi, hwi, w⟩ := hi
  refine wE_of (pe_sc2 (own := [(x, v), (y, u)]) (vs1 := [u]) (tt := tYes) (tt1 := tYes) (te := bE X scope elt) (wi1 := iTup X.K (bE X scope iter1)) hc hN hwi ok (by simp) (fun s H C cl fp => pg_name (i := v) hN hx (hlx s H C cl fp) (hf := hfx s H C cl fp)) (fun _ _ _ _ _ => pts_nil)
    (fun s Hb C cl fp => pi_tup (X := Bk X scope s Hb C cl fp) (tl := bE X scope iter1) ⟨fun pins s0 σ H Q I h => (h s Hb C cl fp).run pins s0 I⟩) (fun s H C cl fp => pg_name (i := u) hN hy (hly s H C cl fp) (hf := hfy s H C cl fp)) (fun _ _ _ _ _ => pts_nil) (fun s H C cl fp => ⟨fun pins s0 σ H Q I h => (h s _ C cl fp).run pins s0 I⟩) hs hs1)
    (w G0 H0 G H σ S L _ fun G1 H1 J S1 e1 wk => ?_)
  intro D hD
  have start : Sta G0 H0 G1 (upd H1 D (TxO X.w D (fun _ => false) 0)) (wipe σ [v, u]) (wipeK ss [v, u]) ((D, TxOb X.w D [] 0) :: O1) := by
    have e : (fun j => decide (j ∈ ([] : List Tx).map sL)) = fun _ => false := by funext j; simp
    refine (S1.new hD (b := TxOb X.w D [] 0) ?_).slots (slots_wipe S1.sl _)
    show upd H1 D _ D = _
    rw [upd_same, e]
  have roomB : ∀ c, c ≤ 1000 → c + 1 < scanBound := fun c h => Nat.lt_of_le_of_lt (Nat.succ_le_succ h) (by decide)
  refine ⟨fun i m H' => m = n - i ∧ i ≤ n ∧ ∃ c G', Sta G0 H0 G' H' (wipe σ [v, u]) (wipeK ss [v, u]) ((D, TxOb X.w D (accS f (fun i => (ds i).length) i) c) :: O1) ∧ Ex G1 G' ∧ c ≤ (accS f (fun i => (ds i).length) i).length, ⟨n, by simp, Nat.zero_le _, 0, G1, start, Ex.refl _, Nat.zero_le _⟩, ?_⟩
  rintro i m H' ⟨rfl, hi, c, G', S', e', hc'⟩
  obtain ⟨Sh, le⟩ := S'.hide
  by_cases hlt : i < n
  · refine .inr ⟨wk.go i _ _ G' H' _ _ O1 Sh e' trivial hlt, fun H2 => ∃ c G2, Sta G0 H0 G2 H2 (wipe σ [v, u]) (wipeK ss [v, u]) ((D, TxOb X.w D (accS f (fun i => (ds i).length) (i + 1)) c) :: O1) ∧ Ex G1 G2 ∧ c ≤ (accS f (fun i => (ds i).length) (i + 1)).length, fun H2 ⟨c, G2, S2, e2, h⟩ => ⟨n - (i + 1), by omega, rfl, by omega, c, G2, S2, e2, h⟩, fun xv H2 yv => ?_⟩
    obtain ⟨G2, S2, e2, dx⟩ := wk.yld i _ _ G' H' _ _ O1 xv H2 Sh e' trivial hlt yv
    have S3 := S'.unhide S2 e2
    have S3' := S3.set v (k := item i) dx
    have wp : wipe ((wipe σ [v, u]).set v (some xv)) [v, u] = wipe σ [v, u] := wipe_again (ix := [v]) (by simp) (fun j hj => List.getElem?_set_ne (by simpa [eq_comm] using hj)) (by simp)
    refine ⟨wp, ?_⟩
    dsimp only [tYes]
    rw [if_pos rfl]
    -- the second source
    intro s Hb C cl fp
    obtain ⟨Sh3, le3⟩ := S3'.hide
    show wE (Bk X scope s Hb C cl fp) iter1 _ H2 _
    refine (h1 i hlt s Hb C cl fp) _ _ G2 H2 _ Sh3 Lt.no _ fun G4 H4 v4 k4 O4 S4 e4 r4 ⟨z1, z2⟩ => ?_
    subst z1 z2
    have S5 := S3'.unhide S4 e4
    obtain ⟨p1, xs1, ep1, g1, t1⟩ := dp_tup r4
    subst ep1
    have wk1 := walks_tup (K := X.K) r4
    refine ⟨p1, rfl, ⟨xs1, g1.sq S5.gh⟩, ?_⟩
    have g4 : Ex G1 G4 := (e'.trans e2).trans e4
    have hle : (accS f (fun i => (ds i).length) (i + 1)).length ≤ 1000 := Nat.le_trans (hacc (i + 1) hlt) hm
    have hsub : ∀ j, j ≤ (ds i).length → (accS f (fun i => (ds i).length) i ++ (List.range j).map (f i)).length ≤ 1000 := fun j hj => by
      rw [accS_succ] at hle
      rw [List.length_append, List.length_map, List.length_range] at hle ⊢
      omega
    refine ⟨fun j m1 H' => m1 = (ds i).length - j ∧ j ≤ (ds i).length ∧ ∃ c G', Sta G0 H0 G' H' (wipe ((wipe σ [v, u]).set v (some xv)) [u]) (wipeK ((wipeK ss [v, u]).set v (item i)) [u]) ((D, TxOb X.w D (accS f (fun i => (ds i).length) i ++ (List.range j).map (f i)) c) :: O4) ∧ Ex G4 G' ∧ c ≤ (accS f (fun i => (ds i).length) i ++ (List.range j).map (f i)).length,
      ⟨(ds i).length, by simp, Nat.zero_le _, c, G4, by rw [List.range_zero, List.map_nil, List.append_nil]; exact S5.slots (slots_wipe S5.sl [u]), Ex.refl _, by rw [List.range_zero, List.map_nil, List.append_nil]; exact hc'⟩, ?_⟩
    rintro j m1 H6 ⟨rfl, hj, c6, G6, S6, e6, hc6⟩
    obtain ⟨Sh6, le6⟩ := S6.hide
    by_cases hlt1 : j < (ds i).length
    · refine .inr ⟨wk1.go j _ _ G6 H6 _ _ O4 Sh6 e6 trivial hlt1, fun H7 => ∃ c G', Sta G0 H0 G' H7 (wipe ((wipe σ [v, u]).set v (some xv)) [u]) (wipeK ((wipeK ss [v, u]).set v (item i)) [u]) ((D, TxOb X.w D (accS f (fun i => (ds i).length) i ++ (List.range (j + 1)).map (f i)) c) :: O4) ∧ Ex G4 G' ∧ c ≤ (accS f (fun i => (ds i).length) i ++ (List.range (j + 1)).map (f i)).length,
        fun H7 ⟨c, G7, S7, e7, h⟩ => ⟨(ds i).length - (j + 1), by omega, rfl, by omega, c, G7, S7, e7, h⟩, fun x1 H7 y7 => ?_⟩
      obtain ⟨G7, S7, e7, dx7⟩ := wk1.yld j _ _ G6 H6 _ _ O4 x1 H7 Sh6 e6 trivial hlt1 y7
      have S8 := S6.unhide S7 e7
      have S8' := S8.set u (k := .dat ((ds i).getD j .none)) dx7
      have wp1 : wipe ((wipe ((wipe σ [v, u]).set v (some xv)) [u]).set u (some x1)) [u] = wipe ((wipe σ [v, u]).set v (some xv)) [u] := wipe_again (ix := [u]) (by simp) (fun j hj => List.getElem?_set_ne (by simpa [eq_comm] using hj)) (by simp)
      refine ⟨wp1, ?_⟩
      dsimp only [tYes]
      rw [if_pos rfl]
      intro s Hb C cl fp
      obtain ⟨Sh8, le8⟩ := S8'.hide
      refine (h2 i j hlt hlt1 s Hb C cl fp) _ _ G7 H7 _ Sh8 Lt.no _ fun G9 H9 v9 k9 O9 S9 e9 r9 ⟨z1, z2⟩ => ?_
      subst z1 z2
      have S10 := S8'.unhide S9 e9
      have ev : v9 = .str (sL (f i j)) := dp_str r9
      have hD9 : H9 D = some (TxO X.w D (fun z => decide (z ∈ (accS f (fun i => (ds i).length) i ++ (List.range j).map (f i)).map sL)) c6) := (S10.ob _ List.mem_cons_self).1
      have hsz := hsub j (by omega)
      refine ⟨sL (f i j), _, c6, ev, hD9, roomB c6 (by omega), ?_⟩
      have eS : (fun z => decide (z ∈ (accS f (fun i => (ds i).length) i ++ (List.range j).map (f i)).map sL) || decide (z = sL (f i j))) = fun z => decide (z ∈ (accS f (fun i => (ds i).length) i ++ (List.range (j + 1)).map (f i)).map sL) := by
        funext z
        rw [Bool.eq_iff_iff]
        simp only [Bool.or_eq_true, decide_eq_true_eq, List.range_succ, List.map_append, List.mem_append, List.map_cons, List.map_nil, List.mem_singleton, or_assoc]
      rw [eS]
      have put := S10.put (i := 0) rfl (b := TxOb X.w D (accS f (fun i => (ds i).length) i ++ (List.range (j + 1)).map (f i)) (if decide (sL (f i j) ∈ (accS f (fun i => (ds i).length) i ++ (List.range j).map (f i)).map sL) = true then c6 else c6 + 1)) (o := TxO X.w D (fun z => decide (z ∈ (accS f (fun i => (ds i).length) i ++ (List.range (j + 1)).map (f i)).map sL)) (if decide (sL (f i j) ∈ (accS f (fun i => (ds i).length) i ++ (List.range j).map (f i)).map sL) = true then c6 else c6 + 1)) upd_same
      refine ⟨_, G9, put.slots (slots_ex (e7.trans e9) S6.sl), (e6.trans e7).trans e9, ?_⟩
      rw [List.length_append, List.length_map, List.length_range] at hc6 ⊢
      split <;> omega
    · have e : j = (ds i).length := by omega
      subst e
      refine .inl ⟨wk1.stop _ _ G6 H6 _ _ O4 Sh6 e6 trivial, c6, G6, ?_, g4.trans e6, by rw [accS_succ]; exact hc6⟩
      have := S6.slots (σ' := wipe σ [v, u]) (ss' := wipeK ss [v, u]) (slots_ex ((e2.trans e4).trans e6) S'.sl)
      rw [accS_succ]
      exact this
  · have e : i = n := by omega
    subst e
    refine .inl ⟨wk.stop _ _ G' H' _ _ O1 Sh e' trivial, ?_⟩
    exact q.v (S'.slots (slots_ex e' S1.sl)) (e1.trans e') ⟨D, c, rfl, rfl⟩
end
end Dl
end
section
/-! dicts from text to plain data: dict(pairs), d.get(k, x) -/
namespace Dl
open PySem PySem.Spec PyProof.Rows L2
open Evl (Ex)

def getT (kvs : List (Str × PyData)) (k : Str) : Option PyData := (kvs.find? fun q => decide (q.1 = k)).map (·.2)
def putT (kvs : List (Str × PyData)) (k : Str) (v : PyData) : List (Str × PyData) :=
  if (kvs.any fun kv => decide (kv.1 = k)) = true then kvs.map (fun kv => if kv.1 = k then (kv.1, v) else kv) else kvs ++ [(k, v)]
def mergeT (kvs more : List (Str × PyData)) : List (Str × PyData) := more.foldl (fun acc kv => putT acc kv.1 kv.2) kvs
def prD (q : Str × PyData) : PyData := .tuple [.str q.1, q.2]

theorem inr_ne {a b : Str} (h : a ≠ b) : ¬ ((Sum.inr a : Key) = Sum.inr b) := fun e => h (Sum.inr.inj e)
theorem kv_any {G : Hp} {k : Str} : ∀ {ws : List (Key × V)} {kvs : List (Str × PyData)}, KvD G ws kvs → (ws.any fun kv => decide (kv.1 = .inr k)) = (kvs.any fun kv => decide (kv.1 = k))
  | _, _, .nil => rfl
  | (_, _) :: _, (s, _) :: _, .cons ⟨e, r⟩ t => by
    have e' : _ = Sum.inr s := e
    simp only at e'
    subst e'
    rw [List.any_cons, List.any_cons, kv_any t]
    congr 1
    by_cases h : s = k
    · simp [h]
    · rw [decide_eq_false h, decide_eq_false (inr_ne h)]
theorem kv_val {G : Hp} {k : Str} : ∀ {ws : List (Key × V)} {kvs : List (Str × PyData)}, KvD G ws kvs → ∀ {x : V} {d : PyData}, DP G x d → DP G ((valV ws (.inr k)).getD x) ((getT kvs k).getD d)
  | _, _, .nil, _, _, r => r
  | (_, v) :: ws, (s, d) :: kvs, .cons ⟨e, r⟩ t, x, y, rx => by
    have e' : _ = Sum.inr s := e
    simp only at e'
    subst e'
    by_cases h : s = k
    · subst h
      rw [valV_pos rfl]
      have : getT ((s, d) :: kvs) s = some d := by simp [getT]
      rw [this]
      exact r
    · rw [valV_neg (p := (Sum.inr s, v)) (inr_ne h)]
      have : getT ((s, d) :: kvs) k = getT kvs k := by simp [getT, List.find?_cons, h]
      rw [this]
      exact kv_val t rx
theorem kv_isSome {G : Hp} {k : Str} : ∀ {ws : List (Key × V)} {kvs : List (Str × PyData)}, KvD G ws kvs → (valV ws (.inr k)).isSome = (getT kvs k).isSome
  | _, _, .nil => rfl
  | (_, v) :: ws, (s, d) :: kvs, .cons ⟨e, r⟩ t => by
    have e' : _ = Sum.inr s := e
    simp only at e'
    subst e'
    by_cases h : s = k
    · subst h
      rw [valV_pos rfl]
      have : getT ((s, d) :: kvs) s = some d := by simp [getT]
      rw [this]
      rfl
    · rw [valV_neg (p := (Sum.inr s, v)) (inr_ne h)]
      have : getT ((s, d) :: kvs) k = getT kvs k := by simp [getT, List.find?_cons, h]
      rw [this]
      exact kv_isSome t
theorem kv_map {G : Hp} {k : Str} {v : V} {d : PyData} (r : DP G v d) : ∀ {ws : List (Key × V)} {kvs : List (Str × PyData)}, KvD G ws kvs →
    KvD G (ws.map fun kv => if kv.1 = .inr k then (kv.1, v) else kv) (kvs.map fun kv => if kv.1 = k then (kv.1, d) else kv)
  | _, _, .nil => .nil
  | (_, u) :: ws, (s, y) :: kvs, .cons ⟨e, q⟩ t => by
    have e' : _ = Sum.inr s := e
    simp only at e'
    subst e'
    rw [List.map_cons, List.map_cons]
    refine .cons ?_ (kv_map r t)
    by_cases h : s = k
    · subst h
      rw [if_pos rfl, if_pos rfl]
      exact ⟨rfl, r⟩
    · rw [if_neg (inr_ne h), if_neg h]
      exact ⟨rfl, q⟩
theorem kv_put {G : Hp} {k : Str} {v : V} {d : PyData} {ws : List (Key × V)} {kvs : List (Str × PyData)} (h : KvD G ws kvs) (r : DP G v d) : KvD G (putK ws (.inr k) v) (putT kvs k d) := by
  unfold putK putT
  rw [kv_any h]
  by_cases c : (kvs.any fun kv => decide (kv.1 = k)) = true
  · rw [if_pos c, if_pos c]; exact kv_map r h
  · rw [if_neg c, if_neg c]; exact paired_app h (.cons ⟨rfl, r⟩ .nil)
theorem kv_merge {G : Hp} : ∀ {wm : List (Key × V)} {km : List (Str × PyData)}, KvD G wm km → ∀ {ws : List (Key × V)} {kvs : List (Str × PyData)}, KvD G ws kvs → KvD G (mergeK ws wm) (mergeT kvs km)
  | _, _, .nil, _, _, h => h
  | (_, v) :: _, (s, d) :: _, .cons ⟨e, r⟩ t, _, _, h => by
    have e' : _ = Sum.inr s := e
    simp only at e'
    subst e'
    exact kv_merge t (kv_put h r)
/-- pairs that stand in a list or a tuple -/
theorem pairs_at {K : PySem.W.Frag} {G H : Hp} (gh : Ex G H) : ∀ {vs : List V} {kvs : List (Str × PyData)}, DPs G vs (kvs.map prD) →
    ∃ (ps : List Addr) (ws : List (Key × V)), vs = ps.map V.ref ∧ KvD G ws kvs ∧ Paired (fun p kv => SqT K H p [kV kv.1, kv.2]) ps ws
  | _, [], h => by
    cases h
    exact ⟨[], [], rfl, .nil, .nil⟩
  | _, (s, d) :: kvs, h => by
    cases h with
    | cons r t =>
      obtain ⟨ps, ws, e1, e2, e3⟩ := pairs_at (K := K) gh t
      obtain ⟨a, xs, rfl, g, rs⟩ := dp_tup (show DP G _ (.tuple [.str s, d]) from r)
      cases rs with
      | cons r1 rs =>
        cases rs with
        | cons r2 rs =>
          cases rs
          have := dp_str r1
          subst this
          exact ⟨a :: ps, (.inr s, _) :: ws, by rw [e1]; rfl, .cons ⟨rfl, r2⟩ e2, .cons (g.sq gh) e3⟩

theorem pairs_of2 {X : Cx} {pins : List (Addr × Obj)} {σ : L2.St} {H : Hp} {s : Shared} (I : Inv X pins σ H s) : ∀ {ps : List Addr} {kvs : List (Key × V)}, Paired (fun p kv => SqT X.K H p [kV kv.1, kv.2]) ps kvs →
    ∃ (prs : List (Key × Value)) (vps : List (Value × Value)), KV kvs prs ∧ prs.length = ps.length ∧ vps.length = ps.length ∧
      ∀ (j : Nat) (k v : Value), vps[j]? = some (k, v) → ∃ (b : Addr) (key : Key), ps[j]? = some b ∧ IsTup s.heap b #[k, v] ∧ prs[j]? = some (key, v) ∧ (mixKind X.prog X.w).is key k = true
  | _, _, .nil => ⟨[], [], .nil, rfl, rfl, fun j k v e => by simp at e⟩
  | _, _, .cons (a := p) (b := kv) h t => by
    obtain ⟨prs, vps, r, hl, hl2, hp⟩ := pairs_of2 I t
    obtain ⟨its, rv, ht, _⟩ := I.tuple h
    obtain ⟨u, y, ei, ru, ry⟩ := vals2 rv
    subst ei
    refine ⟨(kv.1, y) :: prs, (u, y) :: vps, .cons ⟨rfl, ry⟩ r, by rw [List.length_cons, List.length_cons, hl], by rw [List.length_cons, List.length_cons, hl2], fun j k v e => ?_⟩
    cases j with
    | zero =>
      have e' : (u, y) = (k, v) := Option.some.inj e
      cases e'
      exact ⟨p, kv.1, rfl, ht, rfl, kV_is (P := X.prog) (w := X.w) ru⟩
    | succ j =>
      obtain ⟨b, key, e1, e2, e3, e4⟩ := hp j k v (by simpa using e)
      exact ⟨b, key, by simpa using e1, e2, by simpa using e3, e4⟩

/-- dict(xs) of a tuple of pairs -/
theorem call_dictPT {X : Cx} (hcalm : X.calm = true) : CallR X (.type "dict") (fun xs H Q => ∃ (a : Addr) (ps : List Addr) (kvs : List (Key × V)), xs = [.ref a] ∧ (∃ o, H a = some (.frz o (.tup (ps.map V.ref))) ∧ o.dict = none) ∧ Paired (fun p kv => SqT X.K H p [kV kv.1, kv.2]) ps kvs ∧
    ∀ p, H p = none → Q (.ref p) (upd H p (.dK (mergeK [] kvs)))) := by
  intro pins s σ H xs us Q I r q
  obtain ⟨a, ps, kvs, ex, ⟨o, hq, hd⟩, hp, q⟩ := q
  subst ex
  obtain ⟨u, eu, rx⟩ := vals1 r
  subst eu
  cases rx
  obtain ⟨ho, hz, its, rv, o', ho', hc, n, hdat⟩ := (show ObjOk X.prog X.w H s.heap a (.frz o (.tup (ps.map V.ref))) from I.hok a _ hq)
  have e : o' = o := Option.some.inj (ho'.symm.trans ho)
  subst e
  have ei := refs_at rv
  subst ei
  rw [List.length_map] at hz
  obtain ⟨prs, vps, rel, hl, hl2, hpr⟩ := pairs_of2 I hp
  refine PySem.call_dict_pairs (knd := mixKind X.prog X.w) (kvs := prs) (PySem.PairArg.tuple a (ps.map Value.ref).toArray (fun j => ps.getD j 0) vps) (I.ok.hd hcalm) ⟨⟨o', n, ho, hc, hd, hdat⟩, by simp [hl2], fun j k v e => ?_⟩ ⟨by rw [hl, hl2], fun i k v e => ?_⟩ (by rw [hl2]; exact hz) fun h' tk hd' hk => ?_
  · obtain ⟨b, key, e1, e2, e3, e4⟩ := hpr j k v e
    have eb : ps.getD j 0 = b := by rw [List.getD_eq_getElem?_getD, e1]; rfl
    exact ⟨by simp [e1], .inl (by show Heap.IsTuple s.heap (ps.getD j 0) _; rw [eb]; exact e2)⟩
  · obtain ⟨b, key, e1, e2, e3, e4⟩ := hpr i k v e
    exact ⟨key, e3, e4⟩
  · have hm : (s.heap.objs.size == sysModules) = false := beq_eq_false_iff_ne.mpr (Nat.ne_of_gt I.big)
    have hlen : (mergeK [] kvs).length ≤ sizeLine := by
      refine Nat.le_trans (length_mergeK kvs []) ?_
      rw [List.length_nil, Nat.zero_add, rel.length, hl]
      exact hz
    exact ⟨.ref s.heap.objs.size, upd H s.heap.objs.size (.dK (mergeK [] kvs)), I.laid (t' := tk) (fun b o e => hk b o (fun z => nomatch z) e) (Nat.le_refl _) (show ObjOk X.prog X.w _ _ _ (.dK (mergeK [] kvs)) from ⟨hlen, hm, merged [] prs, KV.merge rel .nil, hd'⟩), rfl, q _ (I.hok.fresh (Nat.le_refl _))⟩
section
variable {X : Cx} {R : Addr → Prop} {e a b c o f : Expr} {es : List Expr} {ss : List Kd} {O O1 O2 O3 O' : Store} {k ka kb : Kd} {ks : List Kd} {Φ Ψ : Kd → Store → Prop} {pos : Pos}
/-- dict(pairs), of a tuple or a list -/
theorem en_dictT {d : PyData} {kvs : List (Str × PyData)} {x : Str} {p : Pos} (ha : EV X R e ss O (.dat d) O1) (hd : d = .tuple (kvs.map prD) ∨ d = .list (kvs.map prD)) (hc : X.calm = true) (hm : X.mg "dict" = none) (hx : x = "dict" := by rfl) (hg : Gl X x := by rfl) (he : starEach [e] X.env = (false, eval e X.env) :: starEach [] X.env := by exact star_ne rfl) :
    EN X R (.Call (.Name x p) [e] [] pos) ss O (.od (mergeT [] kvs)) O1 := by
  subst hx
  rcases hd with rfl | rfl
  · refine ej_t1 (call_dictPT hc) ha ?_ hm (by decide +kernel) hg (by decide) (by decide) he
    intro G0 H0 G H σ ss xs S h1 Q w
    obtain ⟨v, rfl, r⟩ := kinds1 h1
    obtain ⟨a, vs, rfl, ⟨o, g1, ho⟩, rv⟩ := dp_tup r
    obtain ⟨ps, ws, rfl, r1, r2⟩ := pairs_at (K := X.K) S.gh rv
    exact ⟨a, ps, ws, rfl, ⟨o, S.gh _ _ g1, ho⟩, r2, fun p hp => w.v (S.new hp (b := .od (mergeT [] kvs)) ⟨_, upd_same, kv_merge r1 .nil⟩) (Ex.refl G) ⟨p, rfl, rfl⟩⟩
  · refine ej_t1 (call_dictP hc) ha ?_ hm (by decide +kernel) hg (by decide) (by decide) he
    intro G0 H0 G H σ ss xs S h1 Q w
    obtain ⟨v, rfl, r⟩ := kinds1 h1
    obtain ⟨a, vs, rfl, g1, rv⟩ := dp_lst r
    obtain ⟨ps, ws, rfl, r1, r2⟩ := pairs_at (K := X.K) S.gh rv
    exact ⟨a, ps, ws, rfl, .of (S.gh _ _ g1), r2, fun p hp => w.v (S.new hp (b := .od (mergeT [] kvs)) ⟨_, upd_same, kv_merge r1 .nil⟩) (Ex.refl G) ⟨p, rfl, rfl⟩⟩
/-- d.get(k, x) of a dict that is plain data -/
theorem ev_dget {kvs : List (Str × PyData)} {s : Str} {d : PyData} {apos : Pos} (hu : X.A.units + 1 < cLine) (ho : EV X R o ss O (.dat (dK kvs)) O1) (he : EV X R e ss O1 (.dat (.str s)) O2) (hf : EV X R f ss O2 (.dat d) O3)
    (hbase : attributeBase o "get" X.env (eval o X.env) = eval o X.env := by rfl) (hs1 : starEach [e, f] X.env = [(false, eval e X.env), (false, eval f X.env)] := by first | rfl | exact (star_ne rfl).trans (congrArg _ (star_ne rfl)))
    (hline : (apos.endLine == pos.line) = true := by rfl) : EV X R (.Call (.Attribute o "get" apos) [e, f] [] pos) ss O (.dat ((getT kvs s).getD d)) O3 := fun G0 H0 G H σ S L Q q => by
  have m : M2 X o "get" apos e f pos := ⟨hbase, by rw [hs1]; rfl, hline, by rw [hs1]; rfl⟩
  refine wE_of (pe_dget2 hu peW peW peW m) (ho G0 H0 G H σ S L _ fun G1 H1 v k1 O4 S1 e1 r1 ⟨h1, h2⟩ => ?_)
  subst h1 h2
  obtain ⟨p, od, ws, rfl, g1, r⟩ := dp_dict r1
  refine ⟨p, rfl, .inl ⟨ws, .inr ⟨od, S1.gh _ _ g1⟩⟩, he G0 H0 G1 H1 σ S1 L _ fun G2 H2 v2 k2 O5 S2 e2 r2 ⟨h3, h4⟩ => ?_⟩
  subst h3 h4
  cases dp_str r2
  refine hf G0 H0 G2 H2 σ S2 L _ fun G3 H3 v3 k3 O6 S3 e3 r3 ⟨h5, h6⟩ => ?_
  subst h5 h6
  refine ⟨valV ws (.inr s), .inl ⟨ws, .inr s, .inr ⟨od, S3.gh _ _ (e3 _ _ (e2 _ _ g1))⟩, rfl, rfl⟩, ?_⟩
  exact q.d S3 ((e1.trans e2).trans e3) (kv_val (kv_ex (e2.trans e3) r) r3) ⟨rfl, rfl⟩
end
end Dl
end
section
/-! sorted sets of texts, text.count, owned dicts -/
namespace Dl
open PySem PySem.Spec PyProof.Rows L2
open Evl (Ex)
theorem putT_len {kvs : List (Str × PyData)} {s : Str} {d : PyData} : (putT kvs s d).length ≤ kvs.length + 1 := by
  unfold putT
  split
  · rw [List.length_map]; omega
  · rw [List.length_append, List.length_cons, List.length_nil]; omega
theorem cnt_is (i : Nat) : ∀ l : List Nat, PyProof.Rows.cnt i l = ((l.count i : Nat) : Int)
  | [] => rfl
  | a :: l => by
    rw [PyProof.Rows.cnt_cons, cnt_is i l, List.count_cons]
    by_cases h : a = i
    · simp [h]; omega
    · simp [h]
theorem txt_count (l : List Nat) (i : Nat) : Txt.count (sL l) (sL [i]) = ((l.count i : Nat) : Int) := by
  rw [show (sL [i] : Str) = ⟨#[i]⟩ from rfl, count_cnt]
  exact cnt_is i l
section
variable {X : Cx} {R : Addr → Prop} {e a b c o f : Expr} {es : List Expr} {ss : List Kd} {O O1 O2 O3 O' : Store} {k ka kb : Kd} {ks : List Kd} {Φ Ψ : Kd → Store → Prop} {pos : Pos} {rest : List Stmt} {D : DE}
/-- sorted(a set of texts) -/
theorem en_sortTx {xs : List Tx} {x : Str} {p : Pos} (h1 : EJ X R e ss O fun k O' => ∃ q c, k = .val (.ref q) ∧ O' = (q, TxOb X.w q xs c) :: O1) (hc : X.calm = true) (hm : X.mg "sorted" = none) (hx : x = "sorted" := by rfl) (hg : Gl X x := by rfl)
    (he : starEach [e] X.env = (false, eval e X.env) :: starEach [] X.env := by exact star_ne rfl) :
    EN X R (.Call (.Name x p) [e] [] pos) ss O (.ol ((setT xs).map dS)) O1 := by
  subst hx
  intro G0 H0 G H σ S L Q q
  refine wE_of (pe_callB (call_sortedTx hc) hg hm (by decide +kernel) (pa_cons peW pa_nil he) (by decide) (by decide) he (by rfl)) (h1 G0 H0 G H σ S L _ fun G1 H1 v k O2 S1 e1 r1 ⟨p, c, h1, h2⟩ => ?_)
  subst h1 h2
  have : v = .ref p := r1
  subst this
  have hp : H1 p = some (TxO X.w p (fun j => decide (j ∈ xs.map sL)) c) := (S1.ob _ List.mem_cons_self).1
  refine ⟨p, _, c, rfl, hp, fun ys p2 hs nd hmm hlen hp2 => ?_⟩
  have e := set_is hs nd hmm
  have S2 := S1.less (O' := O1) (fun q hq => List.mem_cons_of_mem _ hq) (List.nodup_cons.mp S1.nd).2
  refine q.v (S2.new hp2 (b := .ol ((setT xs).map dS)) ⟨ys.map V.str, upd_same, ?_⟩) e1 ⟨p2, rfl, rfl⟩
  have := strs_dps (G := G1) ys
  rw [e] at this ⊢
  rw [List.map_map (f := sL) (g := PyData.str)] at this
  exact this
/-- set(a text) -/
theorem ej_setS {l : List Nat} {x : Str} {p : Pos} (ha : EV X R e ss O (.dat (dS l)) O1) (U : List Nat) (hU : ∀ c ∈ l, c ∈ U) (hl : U.length ≤ 4000) (hc : X.calm = true) (hm : X.mg "set" = none) (hx : x = "set" := by rfl) (hg : Gl X x := by rfl)
    (he : starEach [e] X.env = (false, eval e X.env) :: starEach [] X.env := by exact star_ne rfl) :
    EJ X R (.Call (.Name x p) [e] [] pos) ss O fun k O' => ∃ q c, k = .val (.ref q) ∧ O' = (q, TxOb X.w q (l.map fun c => [c]) c) :: O1 := by
  subst hx
  refine ej_t1 (call_setS hc) ha ?_ hm boot_set hg (by decide) (by decide) he
  intro G0 H0 G H σ ss us S h1 Q w
  obtain ⟨v, rfl, r⟩ := kinds1 h1
  refine ⟨sL l, U.map fun c => (⟨#[c]⟩ : Str), by rw [dp_str r], fun x hx => ?_, ?_, fun p c _ hp => ?_⟩
  · obtain ⟨c, hc, rfl⟩ := List.mem_map.mp hx
    exact List.mem_map_of_mem (f := fun c => (⟨#[c]⟩ : Str)) (hU c hc)
  · rw [List.length_map]
    exact Nat.lt_of_le_of_lt (Nat.succ_le_succ hl) (by decide)
  · have e : (fun j => decide (j ∈ ((sL l).cps.toList.map fun c => (⟨#[c]⟩ : Str)))) = fun j => decide (j ∈ (l.map fun c => [c]).map sL) := by
      rw [List.map_map]
      rfl
    refine w.v (S.new hp (b := TxOb X.w p (l.map fun c => [c]) c) ?_) (Ex.refl G) ⟨p, c, rfl, rfl⟩
    show upd H p _ p = _
    rw [upd_same, e]
/-- text.count(sign) -/
theorem ev_count {l : List Nat} {i : Nat} {apos : Pos} (ha : EV X R o ss O (.dat (dS l)) O1) (he : EV X R e ss O1 (.dat (dS [i])) O2)
    (hs : starEach [e] X.env = [(false, eval e X.env)] := by exact star_ne rfl) (hbase : attributeBase o "count" X.env (eval o X.env) = eval o X.env := by rfl) (hline : (apos.endLine == pos.line) = true := by rfl) :
    EV X R (.Call (.Attribute o "count" apos) [e] [] pos) ss O (.dat (.int (l.count i : Nat))) O2 := fun G0 H0 G H σ S L Q q => by
  refine wE_of (pe_m1 PySem.F.slot_str_count PySem.F.type_str_count mt_count peW peW hs hbase hline) (ha G0 H0 G H σ S L _ fun G1 H1 v k1 O4 S1 e1 r1 ⟨h1, h2⟩ => ?_)
  subst h1 h2
  refine ⟨⟨_, dp_str r1⟩, he G0 H0 G1 H1 σ S1 L _ fun G2 H2 v2 k2 O5 S2 e2 r2 ⟨h3, h4⟩ => ?_⟩
  subst h3 h4
  refine ⟨sL l, sL [i], dp_str r1, by rw [dp_str r2], ?_⟩
  have e : Txt.count (sL l) (sL [i]) = ((l.count i : Nat) : Int) := txt_count l i
  rw [e]
  exact q.d S2 (e1.trans e2) (DP.int _) ⟨rfl, rfl⟩
/-- d.get(k, x) of an owned dict -/
theorem ev_dgetO (j : Nat) {q : Addr} {kvs : List (Str × PyData)} {s : Str} {d : PyData} {apos : Pos} (hu : X.A.units + 1 < cLine) (ho : EV X R o ss O (.val (.ref q)) O) (he : EV X R e ss O (.dat (.str s)) O) (hf : EV X R f ss O (.dat d) O) (hj : O[j]? = some (q, .od kvs))
    (hbase : attributeBase o "get" X.env (eval o X.env) = eval o X.env := by rfl) (hs1 : starEach [e, f] X.env = [(false, eval e X.env), (false, eval f X.env)] := by first | rfl | exact (star_ne rfl).trans (congrArg _ (star_ne rfl)))
    (hline : (apos.endLine == pos.line) = true := by rfl) : EV X R (.Call (.Attribute o "get" apos) [e, f] [] pos) ss O (.dat ((getT kvs s).getD d)) O := fun G0 H0 G H σ S L Q w => by
  have m : M2 X o "get" apos e f pos := ⟨hbase, by rw [hs1]; rfl, hline, by rw [hs1]; rfl⟩
  refine wE_of (pe_dget2 hu peW peW peW m) (ho G0 H0 G H σ S L _ fun G1 H1 v k1 O4 S1 e1 r1 ⟨h1, h2⟩ => ?_)
  subst h1 h2
  have : v = .ref q := r1
  subst this
  obtain ⟨⟨ws, hw, _⟩, _, _⟩ := S1.ob _ (List.mem_of_getElem? hj)
  refine ⟨q, rfl, .inl ⟨ws, .inl hw⟩, he G0 H0 G1 H1 σ S1 L _ fun G2 H2 v2 k2 O5 S2 e2 r2 ⟨h3, h4⟩ => ?_⟩
  subst h3 h4
  cases dp_str r2
  refine hf G0 H0 G2 H2 σ S2 L _ fun G3 H3 v3 k3 O6 S3 e3 r3 ⟨h5, h6⟩ => ?_
  subst h5 h6
  obtain ⟨⟨ws, hw, kv⟩, _, _⟩ := S3.ob _ (List.mem_of_getElem? hj)
  refine ⟨valV ws (.inr s), .inl ⟨ws, .inr s, .inl hw, rfl, rfl⟩, ?_⟩
  exact w.d S3 ((e1.trans e2).trans e3) (kv_val kv r3) ⟨rfl, rfl⟩
/-- d[k] = v of an owned dict -/
theorem sj_dput (j : Nat) {q : Addr} {kvs : List (Str × PyData)} {s : Str} {d : PyData} {ppos : Pos} (hu : X.A.units + 1 < cLine) (hv : EV X R e ss O (.dat d) O) (ho : EV X R o ss O (.val (.ref q)) O) (hi : EV X R f ss O (.dat (.str s)) O) (hj : O[j]? = some (q, .od kvs)) (hl : kvs.length < 16777216)
    (h : SJ X R rest ss (O.set j (q, .od (putT kvs s d))) D) (hs : swapsWith e (some (.Subscript o f ppos)) pos.line X.env = pure false := by rfl) : SJ X R (.Assign [.Subscript o f ppos] e pos :: rest) ss O D := sj_cons fun G0 H0 G H σ S L E st => by
  refine wS_of (ps_dput hu peW peW peW hs) (hv G0 H0 G H σ S L _ fun G1 H1 v1 k1 O4 S1 e1 r1 ⟨h1, h2⟩ => ?_)
  subst h1 h2
  refine ho G0 H0 G1 H1 σ S1 L _ fun G2 H2 v2 k2 O5 S2 e2 r2 ⟨h3, h4⟩ => ?_
  subst h3 h4
  have : v2 = .ref q := r2
  subst this
  refine hi G0 H0 G2 H2 σ S2 L _ fun G3 H3 v3 k3 O6 S3 e3 r3 ⟨h5, h6⟩ => ?_
  subst h5 h6
  cases dp_str r3
  obtain ⟨⟨ws, hw, kv⟩, _, _⟩ := S3.ob _ (List.mem_of_getElem? hj)
  refine ⟨q, _, rfl, .k (k := .inr s) hw (by rw [sizeLine_eq, show ws.length = kvs.length from kv_len kv]; exact hl), ?_⟩
  exact st.nx G3 _ σ _ _ (S3.put hj (b := .od (putT kvs s d)) ⟨_, upd_same, kv_put kv (dp_ex (e2.trans e3) r1)⟩) ((e1.trans e2).trans e3) h
end
end Dl
end
section
/-! walks told by lists, operators told by their data -/
namespace Dl
open PySem PySem.Spec PyProof.Rows L2
open Evl (Ex)
section
variable {X : Cx} {R : Addr → Prop} {e a b c o f elt iter tg : Expr} {es ifs : List Expr} {ss : List Kd} {O O1 O2 O3 O' : Store} {k ka kb : Kd} {ks : List Kd} {Φ Ψ : Kd → Store → Prop} {pos px : Pos} {st : Stmt} {sts rest body : List Stmt} {D D' : DE} {n : Nat} {item item' : Nat → Kd} {need : Store → Prop} {x y : Str} {scope : Scope} {α β : Type}
theorem Walks.congr {J : It} {G : Hp} (h : Walks J G n item need) (e : ∀ i, i < n → item i = item' i) : Walks J G n item' need :=
  ⟨h.go, fun i G0 H0 G' H' σ ss O x H2 S e1 hn hi y => by rw [← e i hi]; exact h.yld i G0 H0 G' H' σ ss O x H2 S e1 hn hi y, h.stop⟩
theorem IJ.congr (h : IJ X R tg iter ss O n item need O') (e : ∀ i, i < n → item i = item' i) : IJ X R tg iter ss O n item' need O' :=
  let ⟨wi, p, q⟩ := h
  ⟨wi, p, fun G0 H0 G H σ S L Rr k => q G0 H0 G H σ S L Rr fun G' H' J S' e' w => k G' H' J S' e' (w.congr e)⟩
def itemL (xs : List α) (inj : α → Kd) (i : Nat) : Kd := match xs[i]? with | some x => inj x | none => .und
theorem itemL_at {xs : List α} {inj : α → Kd} {i : Nat} (h : i < xs.length) : itemL xs inj i = inj xs[i] := by
  unfold itemL
  rw [List.getElem?_eq_getElem h]
/-- iter walks xs, each as inj tells -/
def IL (X : Cx) (R : Addr → Prop) (tg iter : Expr) (ss : List Kd) (O : Store) {α : Type} (xs : List α) (inj : α → Kd) (O' : Store) : Prop := IJ X R tg iter ss O xs.length (itemL xs inj) any O'
theorem il_of {xs : List α} {inj : α → Kd} (h : IJ X R tg iter ss O n item any O') (hn : n = xs.length) (hi : ∀ i (h : i < xs.length), item i = inj xs[i]) : IL X R tg iter ss O xs inj O' := by
  subst hn
  exact h.congr fun i h => (hi i h).trans (itemL_at h).symm
theorem il_list {xs : List α} {g : α → PyData} (h : EV X R iter ss O (.dat (.list (xs.map g))) O') : IL X R tg iter ss O xs (fun x => .dat (g x)) O' :=
  il_of (ij_list h) (by simp) fun i hi => by simp [List.getD_eq_getElem?_getD, hi]
theorem il_tup {xs : List α} {g : α → PyData} (h : EV X R iter ss O (.dat (.tuple (xs.map g))) O') : IL X R tg iter ss O xs (fun x => .dat (g x)) O' :=
  il_of (ij_tup h) (by simp) fun i hi => by simp [List.getD_eq_getElem?_getD, hi]
theorem il_list0 {ds : List PyData} (h : EV X R iter ss O (.dat (.list ds)) O') : IL X R tg iter ss O ds (fun x => .dat x) O' :=
  il_of (ij_list h) rfl fun i hi => by simp [List.getD_eq_getElem?_getD, hi]
theorem il_tup0 {ds : List PyData} (h : EV X R iter ss O (.dat (.tuple ds)) O') : IL X R tg iter ss O ds (fun x => .dat x) O' :=
  il_of (ij_tup h) rfl fun i hi => by simp [List.getD_eq_getElem?_getD, hi]
theorem il_str {s : List Nat} (h : EV X R iter ss O (.dat (dS s)) O') : IL X R tg iter ss O s (fun c => .dat (dS [c])) O' :=
  il_of (ij_str h) rfl fun i hi => by simp [List.getD_eq_getElem?_getD, hi]
theorem il_range {m : Int} {n : Nat} {p : Pos} (h : EV X R e ss O (.dat (.int m)) O') (e1 : m = n) (h2 : n < 2 ^ 62) (hm : X.mg "range" = none) (hx : x = "range" := by rfl) (hg : Gl X x := by rfl) (hs : starEach [e] X.env = [(false, eval e X.env)] := by exact star_ne rfl) : IL X R tg (.Call (.Name x p) [e] [] pos) ss O (List.range n) (fun i => .dat (.int (i : Nat))) O' := by
  subst e1
  exact il_of (ij_range1 h (by omega) (by omega) hm hx hg hs) (by simp) fun i hi => by simp
theorem il_items {kvs : List (Str × PyData)} {elts : List Expr} {kk : Nat} {tpos apos cpos : Pos} (h : EV X R e ss O (.dat (dK kvs)) O') (hbase : attributeBase e "items" X.env (eval e X.env) = eval e X.env := by rfl) (hline : (apos.endLine == cpos.line) = true := by rfl) :
    IL X R (.Tuple elts kk tpos) (.Call (.Attribute e "items" apos) [] [] cpos) ss O kvs (fun q => .two (.str q.1) q.2) O' :=
  il_of (ij_items h hbase hline) rfl fun i hi => by simp [List.getD_eq_getElem?_getD, hi]
theorem il_itemsM {xs : List α} {g : α → Str × PyData} {elts : List Expr} {kk : Nat} {tpos apos cpos : Pos} (h : EV X R e ss O (.dat (dK (xs.map g))) O') (hbase : attributeBase e "items" X.env (eval e X.env) = eval e X.env := by rfl) (hline : (apos.endLine == cpos.line) = true := by rfl) :
    IL X R (.Tuple elts kk tpos) (.Call (.Attribute e "items" apos) [] [] cpos) ss O xs (fun q => .two (.str (g q).1) (g q).2) O' :=
  il_of (ij_items h hbase hline) (by simp) fun i hi => by simp [List.getD_eq_getElem?_getD, hi]
theorem il_keysM {xs : List α} {g : α → Str × PyData} (h : EV X R iter ss O (.dat (dK (xs.map g))) O') : IL X R tg iter ss O xs (fun q => .dat (.str (g q).1)) O' :=
  il_of (ij_keys h) (by simp) fun i hi => by simp [List.getD_eq_getElem?_getD, hi]
/-- for x in iter: by what has been walked -/
theorem sj_forL (v : Nat) {xs : List α} {inj : α → Kd} (Inv : List α → List Kd → Store → Prop) (hN : X.N.Nodup) (hi : IL X R (.Name x px) iter ss O xs inj O') (h0 : Inv [] ss O')
    (hb : ∀ pre z post, xs = pre ++ z :: post → ∀ ss1 O1, Inv pre ss1 O1 → SJ X R body (ss1.set v (inj z)) O1 { D with nx := Inv (pre ++ [z]), ct := Inv (pre ++ [z]), bk := fun ss' O' => SJ X R rest ss' O' D }) (hd : ∀ ss1 O1, Inv xs ss1 O1 → SJ X R rest ss1 O1 D)
    (hx : X.N[v]? = some x := by rfl) (hl : Loc X.env.scope x := by first | exact Or.inl rfl | exact Or.inr rfl) (hfx : X.fn x = true ∨ X.env.scope.names.lookup x = some .local := by first | exact .inl rfl | exact .inr rfl) (hp : PassesOwn (model X.prog X.w) X.A X.env X.xe := by exact passes_of rfl) (hc : X.calm = true := by rfl)
    (hs : ∀ x, foldedSetIterable iter X.env x = pure x := by intro _; rfl) : SJ X R (.For (.Name x px) iter body [] pos :: rest) ss O D := by
  refine sj_for1 v (fun i ss O => Inv (xs.take i) ss O) hN hi (by rw [List.take_zero]; exact h0) (fun _ _ _ _ => trivial) (fun i ss1 O1 hlt iv => ?_) (fun ss1 O1 iv => hd ss1 O1 (by rwa [List.take_length] at iv)) hx hl hfx hp hc hs
  have e1 : xs = xs.take i ++ xs[i] :: xs.drop (i + 1) := by rw [← List.drop_eq_getElem_cons hlt, List.take_append_drop]
  have e2 : xs.take (i + 1) = xs.take i ++ [xs[i]] := List.take_succ_eq_append_getElem hlt
  rw [itemL_at hlt]
  have h := hb _ _ _ e1 ss1 O1 iv
  rw [← e2] at h
  exact h
/-- for x in iter: a fold -/
theorem sj_forF (v : Nat) {xs : List α} {inj : α → Kd} (g : β → α → β) (b0 : β) (Rel : β → List Kd → Store → Prop) (hN : X.N.Nodup) (hi : IL X R (.Name x px) iter ss O xs inj O') (h0 : Rel b0 ss O')
    (hb : ∀ b z, z ∈ xs → ∀ ss1 O1, Rel b ss1 O1 → SJ X R body (ss1.set v (inj z)) O1 { D with nx := Rel (g b z), ct := Rel (g b z), bk := fun ss' O' => SJ X R rest ss' O' D }) (hd : ∀ ss1 O1, Rel (xs.foldl g b0) ss1 O1 → SJ X R rest ss1 O1 D)
    (hx : X.N[v]? = some x := by rfl) (hl : Loc X.env.scope x := by first | exact Or.inl rfl | exact Or.inr rfl) (hfx : X.fn x = true ∨ X.env.scope.names.lookup x = some .local := by first | exact .inl rfl | exact .inr rfl) (hp : PassesOwn (model X.prog X.w) X.A X.env X.xe := by exact passes_of rfl) (hc : X.calm = true := by rfl)
    (hs : ∀ x, foldedSetIterable iter X.env x = pure x := by intro _; rfl) : SJ X R (.For (.Name x px) iter body [] pos :: rest) ss O D :=
  sj_forL v (fun pre ss O => Rel (pre.foldl g b0) ss O) hN hi h0 (fun pre z post e ss1 O1 iv => by
    have h := hb _ z (by rw [e]; simp) ss1 O1 iv
    rw [List.foldl_append]
    exact h) hd hx hl hfx hp hc hs
/-- for x, y in iter -/
theorem sj_forL2 (v u : Nat) {xs : List α} {inj : α → Kd} {d1 d2 : α → PyData} {py pt : Pos} {kt : Nat} (Inv : List α → List Kd → Store → Prop) (hN : X.N.Nodup) (hi : IL X R (.Tuple [.Name x px, .Name y py] kt pt) iter ss O xs inj O') (ht : ∀ z, isTwo (inj z) (d1 z) (d2 z)) (h0 : Inv [] ss O')
    (hb : ∀ pre z post, xs = pre ++ z :: post → ∀ ss1 O1, Inv pre ss1 O1 → SJ X R body ((ss1.set v (.dat (d1 z))).set u (.dat (d2 z))) O1 { D with nx := Inv (pre ++ [z]), ct := Inv (pre ++ [z]), bk := fun ss' O' => SJ X R rest ss' O' D }) (hd : ∀ ss1 O1, Inv xs ss1 O1 → SJ X R rest ss1 O1 D)
    (hx : X.N[v]? = some x := by rfl) (hl : Loc X.env.scope x := by first | exact Or.inl rfl | exact Or.inr rfl) (hfx : X.fn x = true ∨ X.env.scope.names.lookup x = some .local := by first | exact .inl rfl | exact .inr rfl) (hy : X.N[u]? = some y := by rfl) (hly : Loc X.env.scope y := by first | exact Or.inl rfl | exact Or.inr rfl) (hfy : X.fn y = true ∨ X.env.scope.names.lookup y = some .local := by first | exact .inl rfl | exact .inr rfl) (hp : PassesOwn (model X.prog X.w) X.A X.env X.xe := by exact passes_of rfl) (hc : X.calm = true := by rfl)
    (hw : (assignEach [.Name x px, .Name y py] X.env).length = 2 := by rfl) (hst : (assignEach [.Name x px, .Name y py] X.env).findIdx? (·.1) = none := by rfl)
    (hs : ∀ x, foldedSetIterable iter X.env x = pure x := by intro _; rfl) : SJ X R (.For (.Tuple [.Name x px, .Name y py] kt pt) iter body [] pos :: rest) ss O D := by
  cases xs with
  | nil => exact sj_for2 v u (d1 := fun _ => .none) (d2 := fun _ => .none) (fun i ss O => Inv [] ss O) hN hi (fun i hi => absurd hi (Nat.not_lt_zero _)) h0 (fun _ _ _ _ => trivial) (fun i _ _ hlt _ => absurd hlt (Nat.not_lt_zero _)) hd hx hl hfx hy hly hfy hp hc hw hst hs
  | cons z0 zs =>
    generalize hxs : z0 :: zs = xs at *
    refine sj_for2 v u (d1 := fun i => d1 (xs.getD i z0)) (d2 := fun i => d2 (xs.getD i z0)) (fun i ss O => Inv (xs.take i) ss O) hN hi (fun i hlt => ?_) (by rw [List.take_zero]; exact h0) (fun _ _ _ _ => trivial) (fun i ss1 O1 hlt iv => ?_) (fun ss1 O1 iv => hd ss1 O1 (by rwa [List.take_length] at iv)) hx hl hfx hy hly hfy hp hc hw hst hs
    · rw [itemL_at hlt, List.getD_eq_getElem?_getD, List.getElem?_eq_getElem hlt]
      exact ht _
    · have e1 : xs = xs.take i ++ xs[i] :: xs.drop (i + 1) := by rw [← List.drop_eq_getElem_cons hlt, List.take_append_drop]
      have e2 : xs.take (i + 1) = xs.take i ++ [xs[i]] := List.take_succ_eq_append_getElem hlt
      have h := hb _ _ _ e1 ss1 O1 iv
      rw [← e2] at h
      rw [List.getD_eq_getElem?_getD, List.getElem?_eq_getElem hlt]
      exact h
theorem sj_forF2 (v u : Nat) {xs : List α} {inj : α → Kd} {d1 d2 : α → PyData} {py pt : Pos} {kt : Nat} (g : β → α → β) (b0 : β) (Rel : β → List Kd → Store → Prop) (hN : X.N.Nodup) (hi : IL X R (.Tuple [.Name x px, .Name y py] kt pt) iter ss O xs inj O') (ht : ∀ z, isTwo (inj z) (d1 z) (d2 z)) (h0 : Rel b0 ss O')
    (hb : ∀ b z, z ∈ xs → ∀ ss1 O1, Rel b ss1 O1 → SJ X R body ((ss1.set v (.dat (d1 z))).set u (.dat (d2 z))) O1 { D with nx := Rel (g b z), ct := Rel (g b z), bk := fun ss' O' => SJ X R rest ss' O' D }) (hd : ∀ ss1 O1, Rel (xs.foldl g b0) ss1 O1 → SJ X R rest ss1 O1 D)
    (hx : X.N[v]? = some x := by rfl) (hl : Loc X.env.scope x := by first | exact Or.inl rfl | exact Or.inr rfl) (hfx : X.fn x = true ∨ X.env.scope.names.lookup x = some .local := by first | exact .inl rfl | exact .inr rfl) (hy : X.N[u]? = some y := by rfl) (hly : Loc X.env.scope y := by first | exact Or.inl rfl | exact Or.inr rfl) (hfy : X.fn y = true ∨ X.env.scope.names.lookup y = some .local := by first | exact .inl rfl | exact .inr rfl) (hp : PassesOwn (model X.prog X.w) X.A X.env X.xe := by exact passes_of rfl) (hc : X.calm = true := by rfl)
    (hw : (assignEach [.Name x px, .Name y py] X.env).length = 2 := by rfl) (hst : (assignEach [.Name x px, .Name y py] X.env).findIdx? (·.1) = none := by rfl)
    (hs : ∀ x, foldedSetIterable iter X.env x = pure x := by intro _; rfl) : SJ X R (.For (.Tuple [.Name x px, .Name y py] kt pt) iter body [] pos :: rest) ss O D :=
  sj_forL2 v u (fun pre ss O => Rel (pre.foldl g b0) ss O) hN hi ht h0 (fun pre z post e ss1 O1 iv => by
    have h := hb _ z (by rw [e]; simp) ss1 O1 iv
    rw [List.foldl_append]
    exact h) hd hx hl hfx hy hly hfy hp hc hw hst hs
theorem mapRange {xs : List α} {f : α → PyData} {h : Nat → PyData} (e : ∀ i (hi : i < xs.length), h i = f xs[i]) : (List.range xs.length).map h = xs.map f :=
  List.ext_getElem (by simp) fun i h1 h2 => by
    have hi : i < xs.length := by simpa using h2
    simp [e i hi]
theorem filtRange {xs : List α} {f : α → PyData} {t : α → Bool} (d : α) : ((List.range xs.length).filter fun i => t (xs.getD i d)).map (fun i => f (xs.getD i d)) = (xs.filter t).map f := by
  have e : (List.range xs.length).map (fun i => xs.getD i d) = xs := List.ext_getElem (by simp) fun i h1 h2 => by
    have hi : i < xs.length := by simpa using h2
    simp [List.getD_eq_getElem?_getD, hi]
  have : xs.filter t = (((List.range xs.length).filter fun i => t (xs.getD i d)).map fun i => xs.getD i d) := by
    conv => lhs; rw [← e]
    rw [List.filter_map]
    rfl
  rw [this, List.map_map]
  rfl
/-- [elt for x in iter] -/
theorem lj_mapL (v : Nat) {xs : List α} {inj : α → Kd} {f : α → PyData} (hi : IL X R (.Name x px) iter ss O xs inj O1) (hm : xs.length ≤ 16777216) (ok : BlkOk X.N X.env.scope scope [(x, v)]) (hN : X.N.Nodup)
    (hb : ∀ z, z ∈ xs → ∀ s H C cl fp, EV (Bk X scope s H C cl fp) No elt ((ss.set v .und).set v (inj z)) O1 (.dat (f z)) O1)
    (hx : X.N[v]? = some x := by rfl) (hlx : ∀ s H C cl fp, Loc (Bk X scope s H C cl fp).env.scope x := by intro _ _ _ _ _; first | exact Or.inl rfl | exact Or.inr rfl) (hfx : ∀ s H C cl fp, (Bk X scope s H C cl fp).fn x = true ∨ (Bk X scope s H C cl fp).env.scope.names.lookup x = some .local := by intro _ _ _ _ _; first | exact .inl rfl | exact .inr rfl) : LJ X R elt (.Name x px) iter [] scope ss O fun p O' => O' = (p, .ol (xs.map f)) :: O1 := by
  cases xs with
  | nil => exact lj_map1 v (fun _ => .none) ok hN hi hm (fun i hi => absurd hi (Nat.not_lt_zero _)) hx hlx hfx
  | cons z0 zs =>
    generalize hxs : z0 :: zs = xs at *
    have h := lj_map1 (elt := elt) v (fun i => f (xs.getD i z0)) ok hN hi hm (fun i hlt s H C cl fp => by
      rw [itemL_at hlt, List.getD_eq_getElem?_getD, List.getElem?_eq_getElem hlt]
      exact hb _ (List.getElem_mem hlt) s H C cl fp) hx hlx hfx
    rw [mapRange (f := f) fun i hi => by simp [List.getD_eq_getElem?_getD, hi]] at h
    exact h
/-- [elt for x in iter if c] -/
theorem lj_filtL (v : Nat) {xs : List α} {inj : α → Kd} {t : α → Bool} {f : α → PyData} (hi : IL X R (.Name x px) iter ss O xs inj O1) (hm : xs.length ≤ 16777216) (ok : BlkOk X.N X.env.scope scope [(x, v)]) (hN : X.N.Nodup)
    (ht : ∀ z, z ∈ xs → ∀ s H C cl fp, TV (Bk X scope s H C cl fp) No c ((ss.set v .und).set v (inj z)) O1 (t z) O1)
    (hb : ∀ z, z ∈ xs → t z = true → ∀ s H C cl fp, EV (Bk X scope s H C cl fp) No elt ((ss.set v .und).set v (inj z)) O1 (.dat (f z)) O1)
    (hx : X.N[v]? = some x := by rfl) (hlx : ∀ s H C cl fp, Loc (Bk X scope s H C cl fp).env.scope x := by intro _ _ _ _ _; first | exact Or.inl rfl | exact Or.inr rfl) (hfx : ∀ s H C cl fp, (Bk X scope s H C cl fp).fn x = true ∨ (Bk X scope s H C cl fp).env.scope.names.lookup x = some .local := by intro _ _ _ _ _; first | exact .inl rfl | exact .inr rfl) : LJ X R elt (.Name x px) iter [c] scope ss O fun p O' => O' = (p, .ol ((xs.filter t).map f)) :: O1 := by
  cases xs with
  | nil => exact lj_mapIf1 v (fun _ => false) (fun _ => .none) ok hN hi hm (fun i hi => absurd hi (Nat.not_lt_zero _)) (fun i hi => absurd hi (Nat.not_lt_zero _)) hx hlx hfx
  | cons z0 zs =>
    generalize hxs : z0 :: zs = xs at *
    have h := lj_mapIf1 (elt := elt) (c := c) v (fun i => t (xs.getD i z0)) (fun i => f (xs.getD i z0)) ok hN hi hm (fun i hlt s H C cl fp => by
      rw [itemL_at hlt, List.getD_eq_getElem?_getD, List.getElem?_eq_getElem hlt]
      exact ht _ (List.getElem_mem hlt) s H C cl fp) (fun i hlt hti s H C cl fp => by
      rw [List.getD_eq_getElem?_getD, List.getElem?_eq_getElem hlt] at hti
      rw [itemL_at hlt, List.getD_eq_getElem?_getD, List.getElem?_eq_getElem hlt]
      exact hb _ (List.getElem_mem hlt) hti s H C cl fp) hx hlx hfx
    rw [filtRange z0] at h
    exact h
/-- [elt for x, y in iter] -/
theorem lj_mapL2 (v u : Nat) {xs : List α} {inj : α → Kd} {d1 d2 : α → PyData} {f : α → PyData} {py pt : Pos} {kt : Nat} (hi : IL X R (.Tuple [.Name x px, .Name y py] kt pt) iter ss O xs inj O1) (ht2 : ∀ z, isTwo (inj z) (d1 z) (d2 z)) (hm : xs.length ≤ 16777216) (ok : BlkOk X.N X.env.scope scope [(x, v), (y, u)]) (hN : X.N.Nodup)
    (hb : ∀ z, z ∈ xs → ∀ s H C cl fp, EV (Bk X scope s H C cl fp) No elt ((((ss.set u .und).set v .und).set v (.dat (d1 z))).set u (.dat (d2 z))) O1 (.dat (f z)) O1)
    (hc : X.calm = true := by rfl) (hx : X.N[v]? = some x := by rfl) (hlx : ∀ s H C cl fp, Loc (Bk X scope s H C cl fp).env.scope x := by intro _ _ _ _ _; first | exact Or.inl rfl | exact Or.inr rfl) (hfx : ∀ s H C cl fp, (Bk X scope s H C cl fp).fn x = true ∨ (Bk X scope s H C cl fp).env.scope.names.lookup x = some .local := by intro _ _ _ _ _; first | exact .inl rfl | exact .inr rfl) (hy : X.N[u]? = some y := by rfl) (hly : ∀ s H C cl fp, Loc (Bk X scope s H C cl fp).env.scope y := by intro _ _ _ _ _; first | exact Or.inl rfl | exact Or.inr rfl) (hfy : ∀ s H C cl fp, (Bk X scope s H C cl fp).fn y = true ∨ (Bk X scope s H C cl fp).env.scope.names.lookup y = some .local := by intro _ _ _ _ _; first | exact .inl rfl | exact .inr rfl)
    (hw : ∀ s H C cl fp, (assignEach [.Name x px, .Name y py] (Bk X scope s H C cl fp).env).length = 2 := by intro _ _ _ _ _; rfl) (hst : ∀ s H C cl fp, (assignEach [.Name x px, .Name y py] (Bk X scope s H C cl fp).env).findIdx? (·.1) = none := by intro _ _ _ _ _; rfl) : LJ X R elt (.Tuple [.Name x px, .Name y py] kt pt) iter [] scope ss O fun p O' => O' = (p, .ol (xs.map f)) :: O1 := by
  cases xs with
  | nil => exact lj_map2 v u (d1 := fun _ => .none) (d2 := fun _ => .none) (fun _ => .none) ok hN hi (fun i hi => absurd hi (Nat.not_lt_zero _)) hm (fun i hi => absurd hi (Nat.not_lt_zero _)) hc hx hlx hfx hy hly hfy hw hst
  | cons z0 zs =>
    generalize hxs : z0 :: zs = xs at *
    have h := lj_map2 (elt := elt) v u (d1 := fun i => d1 (xs.getD i z0)) (d2 := fun i => d2 (xs.getD i z0)) (fun i => f (xs.getD i z0)) ok hN hi (fun i hlt => by
      rw [itemL_at hlt, List.getD_eq_getElem?_getD, List.getElem?_eq_getElem hlt]
      exact ht2 _) hm (fun i hlt s H C cl fp => by
      rw [List.getD_eq_getElem?_getD, List.getElem?_eq_getElem hlt]
      exact hb _ (List.getElem_mem hlt) s H C cl fp) hc hx hlx hfx hy hly hfy hw hst
    rw [mapRange (f := f) fun i hi => by simp [List.getD_eq_getElem?_getD, hi]] at h
    exact h
/-- [elt for x, y in iter if c] -/
theorem lj_filtL2 (v u : Nat) {xs : List α} {inj : α → Kd} {d1 d2 : α → PyData} {t : α → Bool} {f : α → PyData} {py pt : Pos} {kt : Nat} (hi : IL X R (.Tuple [.Name x px, .Name y py] kt pt) iter ss O xs inj O1) (ht2 : ∀ z, isTwo (inj z) (d1 z) (d2 z)) (hm : xs.length ≤ 16777216) (ok : BlkOk X.N X.env.scope scope [(x, v), (y, u)]) (hN : X.N.Nodup)
    (ht : ∀ z, z ∈ xs → ∀ s H C cl fp, TV (Bk X scope s H C cl fp) No c ((((ss.set u .und).set v .und).set v (.dat (d1 z))).set u (.dat (d2 z))) O1 (t z) O1)
    (hb : ∀ z, z ∈ xs → t z = true → ∀ s H C cl fp, EV (Bk X scope s H C cl fp) No elt ((((ss.set u .und).set v .und).set v (.dat (d1 z))).set u (.dat (d2 z))) O1 (.dat (f z)) O1)
    (hc : X.calm = true := by rfl) (hx : X.N[v]? = some x := by rfl) (hlx : ∀ s H C cl fp, Loc (Bk X scope s H C cl fp).env.scope x := by intro _ _ _ _ _; first | exact Or.inl rfl | exact Or.inr rfl) (hfx : ∀ s H C cl fp, (Bk X scope s H C cl fp).fn x = true ∨ (Bk X scope s H C cl fp).env.scope.names.lookup x = some .local := by intro _ _ _ _ _; first | exact .inl rfl | exact .inr rfl) (hy : X.N[u]? = some y := by rfl) (hly : ∀ s H C cl fp, Loc (Bk X scope s H C cl fp).env.scope y := by intro _ _ _ _ _; first | exact Or.inl rfl | exact Or.inr rfl) (hfy : ∀ s H C cl fp, (Bk X scope s H C cl fp).fn y = true ∨ (Bk X scope s H C cl fp).env.scope.names.lookup y = some .local := by intro _ _ _ _ _; first | exact .inl rfl | exact .inr rfl)
    (hw : ∀ s H C cl fp, (assignEach [.Name x px, .Name y py] (Bk X scope s H C cl fp).env).length = 2 := by intro _ _ _ _ _; rfl) (hst : ∀ s H C cl fp, (assignEach [.Name x px, .Name y py] (Bk X scope s H C cl fp).env).findIdx? (·.1) = none := by intro _ _ _ _ _; rfl) : LJ X R elt (.Tuple [.Name x px, .Name y py] kt pt) iter [c] scope ss O fun p O' => O' = (p, .ol ((xs.filter t).map f)) :: O1 := by
  cases xs with
  | nil => exact lj_mapIf2 v u (d1 := fun _ => .none) (d2 := fun _ => .none) (fun _ => false) (fun _ => .none) ok hN hi (fun i hi => absurd hi (Nat.not_lt_zero _)) hm (fun i hi => absurd hi (Nat.not_lt_zero _)) (fun i hi => absurd hi (Nat.not_lt_zero _)) hc hx hlx hfx hy hly hfy hw hst
  | cons z0 zs =>
    generalize hxs : z0 :: zs = xs at *
    have h := lj_mapIf2 (elt := elt) (c := c) v u (d1 := fun i => d1 (xs.getD i z0)) (d2 := fun i => d2 (xs.getD i z0)) (fun i => t (xs.getD i z0)) (fun i => f (xs.getD i z0)) ok hN hi (fun i hlt => by
      rw [itemL_at hlt, List.getD_eq_getElem?_getD, List.getElem?_eq_getElem hlt]
      exact ht2 _) hm (fun i hlt s H C cl fp => by
      rw [List.getD_eq_getElem?_getD, List.getElem?_eq_getElem hlt]
      exact ht _ (List.getElem_mem hlt) s H C cl fp) (fun i hlt hti s H C cl fp => by
      rw [List.getD_eq_getElem?_getD, List.getElem?_eq_getElem hlt] at hti
      rw [List.getD_eq_getElem?_getD, List.getElem?_eq_getElem hlt]
      exact hb _ (List.getElem_mem hlt) hti s H C cl fp) hc hx hlx hfx hy hly hfy hw hst
    rw [filtRange z0] at h
    exact h
end
end Dl
end
section
/-! operators told by their data -/
namespace Dl
open PySem PySem.Spec PyProof.Rows L2
open Evl (Ex)
inductive AddK : PyData → PyData → PyData → Prop
  | nat (i j : Nat) : AddK (.int i) (.int j) (.int ((i + j : Nat)))
  | nat1 (i : Nat) : AddK (.int i) (.int 1) (.int ((i + 1 : Nat)))
  | one (i : Nat) : AddK (.int 1) (.int i) (.int ((1 + i : Nat)))
  | int (i j : Int) : AddK (.int i) (.int j) (.int (i + j))
  | str {s t : List Nat} (h : s.length + t.length ≤ 16777216) : AddK (dS s) (dS t) (dS (s ++ t))
  | lstM {α : Type} {g : α → PyData} {s t : List α} (h : s.length + t.length ≤ 16777216) : AddK (.list (s.map g)) (.list (t.map g)) (.list ((s ++ t).map g))
  | tupM {α : Type} {g : α → PyData} {s t : List α} (h : s.length + t.length ≤ 16777216) : AddK (.tuple (s.map g)) (.tuple (t.map g)) (.tuple ((s ++ t).map g))
  | lst {s t : List PyData} (h : s.length + t.length ≤ 16777216) : AddK (.list s) (.list t) (.list (s ++ t))
  | tup {s t : List PyData} (h : s.length + t.length ≤ 16777216) : AddK (.tuple s) (.tuple t) (.tuple (s ++ t))
inductive MulK : PyData → PyData → PyData → Prop
  | nat (i j : Nat) (h : CMul i j ∨ CMulW i j) : MulK (.int i) (.int j) (.int ((i * j : Nat)))
  | int (i j : Int) (h : CMul i j ∨ CMulW i j) : MulK (.int i) (.int j) (.int (i * j))
  | str {s : List Nat} {n : Nat} (h : s.length * n ≤ 16777216) (hn : n ≤ 16777216) : MulK (dS s) (.int n) (dS (List.replicate n s).flatten)
  | lst {s : List PyData} {n : Nat} (h : s.length * n ≤ 16777216) (hn : n ≤ 16777216) : MulK (.list s) (.int n) (.list (List.replicate n s).flatten)
inductive EqK : PyData → PyData → Bool → Prop
  | nat (i j : Nat) : EqK (.int i) (.int j) (decide (i = j))
  | int (i j : Int) : EqK (.int i) (.int j) (decide (i = j))
  | str (s t : List Nat) : EqK (dS s) (dS t) (decide (s = t))
  | bool (s t : Bool) : EqK (.bool s) (.bool t) (decide (s = t))
  | nonS (t : Str) : EqK .none (.str t) false
  | strN (t : Str) : EqK (.str t) .none false
  | intS (i : Int) (t : Str) : EqK (.int i) (.str t) false
  | strI (i : Int) (t : Str) : EqK (.str t) (.int i) false
  | nonI (t : Int) : EqK .none (.int t) false
  | intN (t : Int) : EqK (.int t) .none false
  | nonN : EqK .none .none true
  | gen {d1 d2 : PyData} {b : Bool} (s1 : pl d1 = true) (s2 : pl d2 = true) (e : PyData.eqv d1 d2 = b) : EqK d1 d2 b
inductive LtK : PyData → PyData → Bool → Prop
  | nat (i j : Nat) : LtK (.int i) (.int j) (decide (i < j))
  | int (i j : Int) : LtK (.int i) (.int j) (decide (i < j))
  | str (s t : List Nat) : LtK (dS s) (dS t) (decide (s < t))
inductive LeK : PyData → PyData → Bool → Prop
  | nat (i j : Nat) : LeK (.int i) (.int j) (decide (i ≤ j))
  | int (i j : Int) : LeK (.int i) (.int j) (decide (i ≤ j))
inductive LenK : PyData → Nat → Prop
  | str {t : List Nat} (h : t.length ≤ 16777216) : LenK (dS t) t.length
  | lstM {α : Type} {g : α → PyData} (xs : List α) : LenK (.list (xs.map g)) xs.length
  | tupM {α : Type} {g : α → PyData} (xs : List α) : LenK (.tuple (xs.map g)) xs.length
  | lst (xs : List PyData) : LenK (.list xs) xs.length
  | tup (xs : List PyData) : LenK (.tuple xs) xs.length
inductive IxK : PyData → PyData → PyData → Prop
  | lst {ds : List PyData} {i : Int} {d : PyData} (h : atI ds i = some d) : IxK (.list ds) (.int i) d
  | tup {ds : List PyData} {i : Int} {d : PyData} (h : atI ds i = some d) : IxK (.tuple ds) (.int i) d
  | str {s : List Nat} {i : Int} {c : Nat} (h : atI s i = some c) (hl : s.length ≤ 16777216) : IxK (dS s) (.int i) (dS [c])
inductive GetK : PyData → PyData → PyData → PyData → Prop
  | mk (kvs : List (Str × PyData)) (s : Str) (d : PyData) : GetK (dK kvs) (.str s) d ((getT kvs s).getD d)
/-- a[lo:hi] -/
inductive SlK : PyData → Option Int → Option Int → PyData → Prop
  | str {s : List Nat} {l h : Option Int} (hz : s.length ≤ 16777216) : SlK (dS s) l h (dS (cut s l h))
  | tup (s : List PyData) (l h : Option Int) : SlK (.tuple s) l h (.tuple (cut s l h))
  | lst (s : List PyData) (l h : Option Int) : SlK (.list s) l h (.list (cut s l h))
theorem cut_from {α : Type} (xs : List α) (i : Nat) : cut xs (some (i : Int)) none = xs.drop i := by
  unfold cut
  rw [HT.sIx_nat, HT.sIx_none]
  rcases Nat.le_total i xs.length with h | h
  · rw [Nat.min_eq_left h]
    exact List.take_of_length_le (by rw [List.length_drop]; exact Nat.le_refl _)
  · rw [Nat.min_eq_right h, List.drop_of_length_le h, List.drop_of_length_le (Nat.le_refl _)]
    simp
theorem cut_to {α : Type} (xs : List α) (j : Nat) : cut xs none (some (j : Int)) = xs.take j := by
  unfold cut
  rw [HT.sIx_nat, HT.sIx_none, List.drop_zero, Nat.sub_zero]
  rcases Nat.le_total j xs.length with h | h
  · rw [Nat.min_eq_left h]
  · rw [Nat.min_eq_right h, List.take_of_length_le (Nat.le_refl _), List.take_of_length_le h]
theorem cut_mid {α : Type} (xs : List α) (i j : Nat) : cut xs (some (i : Int)) (some (j : Int)) = (xs.drop i).take (j - i) := by
  unfold cut
  rw [HT.sIx_nat, HT.sIx_nat]
  rcases Nat.le_total i xs.length with h | h
  · rw [Nat.min_eq_left h]
    rcases Nat.le_total j xs.length with g | g
    · rw [Nat.min_eq_left g]
    · rw [Nat.min_eq_right g, List.take_of_length_le (by rw [List.length_drop]; exact Nat.le_refl _), List.take_of_length_le (by rw [List.length_drop]; omega)]
  · rw [Nat.min_eq_right h, List.drop_of_length_le h, List.drop_of_length_le (Nat.le_refl _)]
    simp
theorem cut_mapD {α : Type} {g : α → PyData} (xs : List α) (l h : Option Int) : cut (xs.map g) l h = (cut xs l h).map g := by
  unfold cut
  rw [List.length_map, List.map_take, List.map_drop]
section
variable {α : Type} {g : α → PyData}
theorem SlK.sFrom (s : List Nat) (i : Nat) (hz : s.length ≤ 16777216) : SlK (dS s) (some (i : Int)) none (dS (s.drop i)) := by rw [← cut_from]; exact .str hz
theorem SlK.sTo (s : List Nat) (i : Nat) (hz : s.length ≤ 16777216) : SlK (dS s) none (some (i : Int)) (dS (s.take i)) := by rw [← cut_to]; exact .str hz
theorem SlK.sMid (s : List Nat) (i j : Nat) (hz : s.length ≤ 16777216) : SlK (dS s) (some (i : Int)) (some (j : Int)) (dS ((s.drop i).take (j - i))) := by rw [← cut_mid]; exact .str hz
theorem SlK.tFrom (s : List α) (i : Nat) : SlK (.tuple (s.map g)) (some (i : Int)) none (.tuple ((s.drop i).map g)) := by rw [← cut_from, ← cut_mapD]; exact .tup _ _ _
theorem SlK.tTo (s : List α) (i : Nat) : SlK (.tuple (s.map g)) none (some (i : Int)) (.tuple ((s.take i).map g)) := by rw [← cut_to, ← cut_mapD]; exact .tup _ _ _
theorem SlK.lFrom (s : List α) (i : Nat) : SlK (.list (s.map g)) (some (i : Int)) none (.list ((s.drop i).map g)) := by rw [← cut_from, ← cut_mapD]; exact .lst _ _ _
theorem SlK.lTo (s : List α) (i : Nat) : SlK (.list (s.map g)) none (some (i : Int)) (.list ((s.take i).map g)) := by rw [← cut_to, ← cut_mapD]; exact .lst _ _ _
theorem IxK.lN {xs : List α} {i : Nat} {z : α} (h : xs[i]? = some z) : IxK (.list (xs.map g)) (.int (i : Nat)) (g z) := .lst (atI_nat (by rw [List.getElem?_map, h]; rfl))
theorem IxK.tN {xs : List α} {i : Nat} {z : α} (h : xs[i]? = some z) : IxK (.tuple (xs.map g)) (.int (i : Nat)) (g z) := .tup (atI_nat (by rw [List.getElem?_map, h]; rfl))
theorem IxK.sN {xs : List Nat} {i : Nat} {c : Nat} (h : xs[i]? = some c) (hl : xs.length ≤ 16777216) : IxK (dS xs) (.int (i : Nat)) (dS [c]) := .str (atI_nat h) hl
end
section
variable {X : Cx} {R : Addr → Prop} {e a b c o f elt iter tg : Expr} {es ifs : List Expr} {ss : List Kd} {O O1 O2 O3 O' : Store} {k ka kb : Kd} {ks : List Kd} {Φ Ψ : Kd → Store → Prop} {pos px : Pos} {d d1 d2 d3 : PyData} {t : Bool} {n m : Nat} {x : Str}
theorem x_add (ha : EV X R a ss O (.dat d1) O1) (hb : EV X R b ss O1 (.dat d2) O2) (h : AddK d1 d2 d) : EV X R (.BinOp a .Add b pos) ss O (.dat d) O2 := by
  cases h with
  | nat i j => exact ev_add ha hb
  | nat1 i => exact ev_add ha hb
  | one i => exact ev_add ha hb
  | int i j => exact ev_add ha hb
  | str h => exact ev_sadd ha hb h
  | lst h => exact ev_ladd ha hb h
  | tup h => exact ev_tadd ha hb h
  | lstM h => rw [List.map_append]; exact ev_ladd ha hb (by simpa using h)
  | tupM h => rw [List.map_append]; exact ev_tadd ha hb (by simpa using h)
theorem x_sub {i j : Int} (ha : EV X R a ss O (.dat (.int i)) O1) (hb : EV X R b ss O1 (.dat (.int j)) O2) : EV X R (.BinOp a .Sub b pos) ss O (.dat (.int (i - j))) O2 := ev_sub ha hb
theorem x_mul (ha : EV X R a ss O (.dat d1) O1) (hb : EV X R b ss O1 (.dat d2) O2) (h : MulK d1 d2 d) : EV X R (.BinOp a .Mult b pos) ss O (.dat d) O2 := by
  cases h with
  | nat i j h => rw [Int.natCast_mul]; rcases h with h | h
                 · exact ev_mul ha hb h
                 · exact ev_mulW ha hb h
  | int i j h => rcases h with h | h
                 · exact ev_mul ha hb h
                 · exact ev_mulW ha hb h
  | str h hn => exact ev_smul ha hb h hn
  | lst h hn => exact ev_lrep ha hb h hn
theorem dat_eq {d1 d2 : PyData} {r : R2} {b' : Bool} {Φ : Kd → Store → Prop} (hq : ∀ (x y : V) (G H : Hp) (Q : VK), DP G x d1 → DP G y d2 → Q (.bl b') H → r x y H Q) (h : Φ (.dat (.bool b')) O) : OJ X r (.dat d1) (.dat d2) O Φ :=
  fun G0 H0 G H σ ss x y S h1 h2 Q q => hq x y G H Q h1 h2 (q.d S (Ex.refl G) (DP.bl _) h)
theorem vnat {i j : Nat} : decide (V.int (i : Int) = V.int (j : Int)) = decide (i = j) := decide_eq_decide.mpr ⟨fun h => by injection h with h; omega, fun h => by rw [h]⟩
theorem eqk_oj (h : EqK d1 d2 t) (hu : X.A.units + 64 < cLine) : ∃ r : R2, OpR X (compareOp .Eq) r ∧ ∀ {Φ : Kd → Store → Prop} {O : Store}, Φ (.dat (.bool t)) O → OJ X r (.dat d1) (.dat d2) O Φ := by
  cases h with
  | nat i j => exact ⟨_, op_eq, fun h => dat_eq (fun x y G H Q h1 h2 q => by cases h1; cases h2; exact ⟨rfl, by rw [vnat]; exact q⟩) h⟩
  | int i j => exact ⟨_, op_eq, fun h => dat_eq (fun x y G H Q h1 h2 q => by cases h1; cases h2; exact ⟨rfl, by simpa using q⟩) h⟩
  | str i j => exact ⟨_, op_eq, fun h => dat_eq (fun x y G H Q h1 h2 q => by cases h1; cases h2; exact ⟨rfl, by simpa using q⟩) h⟩
  | bool i j => exact ⟨_, op_eq, fun h => dat_eq (fun x y G H Q h1 h2 q => by cases h1; cases h2; exact ⟨rfl, by simpa using q⟩) h⟩
  | nonS s => exact ⟨_, op_eq, fun h => dat_eq (fun x y G H Q h1 h2 q => by cases h1; cases h2; exact ⟨rfl, by simpa using q⟩) h⟩
  | strN s => exact ⟨_, op_eq, fun h => dat_eq (fun x y G H Q h1 h2 q => by cases h1; cases h2; exact ⟨rfl, by simpa using q⟩) h⟩
  | intS i s => exact ⟨_, op_eq, fun h => dat_eq (fun x y G H Q h1 h2 q => by cases h1; cases h2; exact ⟨rfl, by simpa using q⟩) h⟩
  | strI i s => exact ⟨_, op_eq, fun h => dat_eq (fun x y G H Q h1 h2 q => by cases h1; cases h2; exact ⟨rfl, by simpa using q⟩) h⟩
  | nonI s => exact ⟨_, op_eq, fun h => dat_eq (fun x y G H Q h1 h2 q => by cases h1; cases h2; exact ⟨rfl, by simpa using q⟩) h⟩
  | intN s => exact ⟨_, op_eq, fun h => dat_eq (fun x y G H Q h1 h2 q => by cases h1; cases h2; exact ⟨rfl, by simpa using q⟩) h⟩
  | nonN => exact ⟨_, op_eq, fun h => dat_eq (fun x y G H Q h1 h2 q => by cases h1; cases h2; exact ⟨rfl, by simpa using q⟩) h⟩
  | gen s1 s2 e => exact ⟨_, op_eqD hu, fun h => oj_eq hu s1 s2 (by rw [e]; exact h)⟩
theorem nek_oj (h : EqK d1 d2 t) (hu : X.A.units + 64 < cLine) : ∃ r : R2, OpR X (compareOp .NotEq) r ∧ ∀ {Φ : Kd → Store → Prop} {O : Store}, Φ (.dat (.bool (!t))) O → OJ X r (.dat d1) (.dat d2) O Φ := by
  cases h with
  | nat i j => exact ⟨_, op_ne, fun h => dat_eq (fun x y G H Q h1 h2 q => by cases h1; cases h2; exact ⟨rfl, by rw [vnat]; exact q⟩) h⟩
  | int i j => exact ⟨_, op_ne, fun h => dat_eq (fun x y G H Q h1 h2 q => by cases h1; cases h2; exact ⟨rfl, by simpa using q⟩) h⟩
  | str i j => exact ⟨_, op_ne, fun h => dat_eq (fun x y G H Q h1 h2 q => by cases h1; cases h2; exact ⟨rfl, by simpa using q⟩) h⟩
  | bool i j => exact ⟨_, op_ne, fun h => dat_eq (fun x y G H Q h1 h2 q => by cases h1; cases h2; exact ⟨rfl, by simpa using q⟩) h⟩
  | nonS s => exact ⟨_, op_ne, fun h => dat_eq (fun x y G H Q h1 h2 q => by cases h1; cases h2; exact ⟨rfl, by simpa using q⟩) h⟩
  | strN s => exact ⟨_, op_ne, fun h => dat_eq (fun x y G H Q h1 h2 q => by cases h1; cases h2; exact ⟨rfl, by simpa using q⟩) h⟩
  | intS i s => exact ⟨_, op_ne, fun h => dat_eq (fun x y G H Q h1 h2 q => by cases h1; cases h2; exact ⟨rfl, by simpa using q⟩) h⟩
  | strI i s => exact ⟨_, op_ne, fun h => dat_eq (fun x y G H Q h1 h2 q => by cases h1; cases h2; exact ⟨rfl, by simpa using q⟩) h⟩
  | nonI s => exact ⟨_, op_ne, fun h => dat_eq (fun x y G H Q h1 h2 q => by cases h1; cases h2; exact ⟨rfl, by simpa using q⟩) h⟩
  | intN s => exact ⟨_, op_ne, fun h => dat_eq (fun x y G H Q h1 h2 q => by cases h1; cases h2; exact ⟨rfl, by simpa using q⟩) h⟩
  | nonN => exact ⟨_, op_ne, fun h => dat_eq (fun x y G H Q h1 h2 q => by cases h1; cases h2; exact ⟨rfl, by simpa using q⟩) h⟩
  | gen s1 s2 e => exact ⟨_, op_neD hu, fun h => oj_ne hu s1 s2 (by rw [e]; exact h)⟩
theorem x_eq (ha : EV X R a ss O (.dat d1) O1) (hb : EV X R b ss O1 (.dat d2) O2) (h : EqK d1 d2 t) (hr : Room n X.A) : EV X R (.Compare a [.Eq] [b] pos) ss O (.dat (.bool t)) O2 :=
  let ⟨_, p, q⟩ := eqk_oj h hr.units
  ev_cmp p ha hb (q ⟨rfl, rfl⟩) (nomark _)
theorem x_ne (ha : EV X R a ss O (.dat d1) O1) (hb : EV X R b ss O1 (.dat d2) O2) (h : EqK d1 d2 t) (hr : Room n X.A) : EV X R (.Compare a [.NotEq] [b] pos) ss O (.dat (.bool (!t))) O2 :=
  let ⟨_, p, q⟩ := nek_oj h hr.units
  ev_cmp p ha hb (q ⟨rfl, rfl⟩) (nomark _)
theorem t_eq (ha : EV X R a ss O (.dat d1) O1) (hb : EV X R b ss O1 (.dat d2) O2) (h : EqK d1 d2 t) (hr : Room n X.A) : TV X R (.Compare a [.Eq] [b] pos) ss O t O2 :=
  let ⟨_, p, q⟩ := eqk_oj h hr.units
  tv_cmp p ha hb (q ⟨rfl, rfl⟩) (nomark _)
theorem t_ne (ha : EV X R a ss O (.dat d1) O1) (hb : EV X R b ss O1 (.dat d2) O2) (h : EqK d1 d2 t) (hr : Room n X.A) : TV X R (.Compare a [.NotEq] [b] pos) ss O (!t) O2 :=
  let ⟨_, p, q⟩ := nek_oj h hr.units
  tv_cmp p ha hb (q ⟨rfl, rfl⟩) (nomark _)
theorem tv_slt {s t : List Nat} (ha : EV X R a ss O (.dat (dS s)) O1) (hb : EV X R b ss O1 (.dat (dS t)) O2) : TV X R (.Compare a [.Lt] [b] pos) ss O (decide (s < t)) O2 :=
  tv_cmp op_lt_str ha hb (fun G0 H0 G H σ ss x y S h1 h2 Q q => ⟨sL s, sL t, dp_str h1, dp_str h2, q.d S (Ex.refl G) (DP.bl _) ⟨by simp, rfl⟩⟩) (nomark _)
theorem ltk_ex (h : LtK d1 d2 t) : (∃ i j : Int, d1 = .int i ∧ d2 = .int j ∧ t = decide (i < j)) ∨ (∃ i j : List Nat, d1 = dS i ∧ d2 = dS j ∧ t = decide (i < j)) := by
  cases h with
  | nat i j => exact .inl ⟨_, _, rfl, rfl, by simp⟩
  | int i j => exact .inl ⟨_, _, rfl, rfl, rfl⟩
  | str i j => exact .inr ⟨_, _, rfl, rfl, rfl⟩
theorem lek_ex (h : LeK d1 d2 t) : ∃ i j : Int, d1 = .int i ∧ d2 = .int j ∧ t = decide (i ≤ j) := by
  cases h with
  | nat i j => exact ⟨_, _, rfl, rfl, by simp⟩
  | int i j => exact ⟨_, _, rfl, rfl, rfl⟩
theorem x_lt (ha : EV X R a ss O (.dat d1) O1) (hb : EV X R b ss O1 (.dat d2) O2) (h : LtK d1 d2 t) : EV X R (.Compare a [.Lt] [b] pos) ss O (.dat (.bool t)) O2 := by
  rcases ltk_ex h with ⟨i, j, rfl, rfl, rfl⟩ | ⟨i, j, rfl, rfl, rfl⟩
  · exact ev_lt ha hb
  · exact ev_slt ha hb
theorem t_lt (ha : EV X R a ss O (.dat d1) O1) (hb : EV X R b ss O1 (.dat d2) O2) (h : LtK d1 d2 t) : TV X R (.Compare a [.Lt] [b] pos) ss O t O2 := by
  rcases ltk_ex h with ⟨i, j, rfl, rfl, rfl⟩ | ⟨i, j, rfl, rfl, rfl⟩
  · exact tv_lt ha hb
  · exact tv_slt ha hb
theorem nat_dec {i j : Nat} : decide ((i : Int) < j) = decide (i < j) := by simp
theorem x_gt (ha : EV X R a ss O (.dat d1) O1) (hb : EV X R b ss O1 (.dat d2) O2) (h : LeK d1 d2 t) : EV X R (.Compare a [.Gt] [b] pos) ss O (.dat (.bool (!t))) O2 := by
  obtain ⟨i, j, rfl, rfl, rfl⟩ := lek_ex h
  rw [show (!decide (i ≤ j)) = decide (j < i) by by_cases g : i ≤ j <;> simp [g] <;> omega]
  exact ev_gt ha hb
theorem t_gt (ha : EV X R a ss O (.dat d1) O1) (hb : EV X R b ss O1 (.dat d2) O2) (h : LeK d1 d2 t) : TV X R (.Compare a [.Gt] [b] pos) ss O (!t) O2 := by
  obtain ⟨i, j, rfl, rfl, rfl⟩ := lek_ex h
  rw [show (!decide (i ≤ j)) = decide (j < i) by by_cases g : i ≤ j <;> simp [g] <;> omega]
  exact tv_gt ha hb
theorem x_le (ha : EV X R a ss O (.dat d1) O1) (hb : EV X R b ss O1 (.dat d2) O2) (h : LeK d1 d2 t) : EV X R (.Compare a [.LtE] [b] pos) ss O (.dat (.bool t)) O2 := by
  obtain ⟨i, j, rfl, rfl, rfl⟩ := lek_ex h
  exact ev_le ha hb
theorem t_le (ha : EV X R a ss O (.dat d1) O1) (hb : EV X R b ss O1 (.dat d2) O2) (h : LeK d1 d2 t) : TV X R (.Compare a [.LtE] [b] pos) ss O t O2 := by
  obtain ⟨i, j, rfl, rfl, rfl⟩ := lek_ex h
  exact tv_le ha hb
theorem x_ge {i j : Int} (ha : EV X R a ss O (.dat (.int i)) O1) (hb : EV X R b ss O1 (.dat (.int j)) O2) : EV X R (.Compare a [.GtE] [b] pos) ss O (.dat (.bool (decide (j ≤ i)))) O2 := ev_ge ha hb
theorem x_len {p : Pos} (ha : EV X R e ss O (.dat d) O1) (h : LenK d n) (B : Bn X.mg) (hx : x = "len" := by rfl) (hg : Gl X x := by rfl) (he : starEach [e] X.env = (false, eval e X.env) :: starEach [] X.env := by exact star_ne rfl) : EV X R (.Call (.Name x p) [e] [] pos) ss O (.dat (.int (n : Nat))) O1 := by
  cases h with
  | str h => exact ev_lenS ha h B.len hx hg he
  | lst h => exact ev_lenL ha B.len hx hg he
  | tup h => exact ev_lenT ha B.len hx hg he
  | lstM xs => have := ev_lenL (pos := pos) (p := p) ha B.len hx hg he; rwa [List.length_map] at this
  | tupM xs => have := ev_lenT (pos := pos) (p := p) ha B.len hx hg he; rwa [List.length_map] at this
theorem x_ix (ha : EV X R a ss O (.dat d1) O1) (hb : EV X R b ss O1 (.dat d2) O2) (h : IxK d1 d2 d) (hs : PlainIx b := by exact fun _ _ => rfl) : EV X R (.Subscript a b pos) ss O (.dat d) O2 := by
  cases h with
  | lst h => exact ev_ixL ha hb h hs
  | tup h => exact ev_ixT ha hb h hs
  | str h hl => exact ev_ixS ha hb h hl hs
theorem x_get {apos : Pos} (ho : EV X R o ss O (.dat d1) O1) (he : EV X R e ss O1 (.dat d2) O2) (hf : EV X R f ss O2 (.dat d3) O3) (h : GetK d1 d2 d3 d) (hr : Room n X.A)
    (hbase : attributeBase o "get" X.env (eval o X.env) = eval o X.env := by rfl) (hs1 : starEach [e, f] X.env = [(false, eval e X.env), (false, eval f X.env)] := by first | rfl | exact (star_ne rfl).trans (congrArg _ (star_ne rfl)))
    (hline : (apos.endLine == pos.line) = true := by rfl) : EV X R (.Call (.Attribute o "get" apos) [e, f] [] pos) ss O (.dat d) O3 := by
  cases h
  exact ev_dget (by have := hr.units; omega) ho he hf hbase hs1 hline
theorem x_sl {lo hi : Option Expr} {l h : Option Int} {p2 : Pos} (ha : EV X R a ss O (.dat d1) O1) (hl : OpI X R lo ss O1 l O2) (hh : OpI X R hi ss O2 h O3) (hk : SlK d1 l h d) : EV X R (.Subscript a (.Slice lo hi none p2) pos) ss O (.dat d) O3 := by
  cases hk with
  | str hz => exact ev_slS ha hl hh hz
  | tup => exact ev_slT ha hl hh
  | lst => exact ev_slL ha hl hh
theorem x_if {b' : Bool} {d1 d2 : PyData} (h : TV X R c ss O b' O1) (h1 : b' = true → EV X R a ss O1 (.dat d1) O2) (h2 : b' = false → EV X R b ss O1 (.dat d2) O2) : EV X R (.IfExp c a b pos) ss O (.dat (if b' = true then d1 else d2)) O2 := by
  refine ej_if h (fun e => ?_) (fun e => ?_)
  · rw [if_pos e]; exact h1 e
  · rw [if_neg (by rw [e]; decide)]; exact h2 e
/-- [elt for ..] as data -/
theorem x_lc {ds : List PyData} {scope : Scope} (h : LJ X R elt tg iter ifs scope ss O fun p O' => O' = (p, .ol ds) :: O1) (hN : X.N.Nodup) (hc : X.calm = true := by rfl) (hs : ∀ x, foldedSetIterable iter X.env x = pure x := by intro _; rfl) : EV X R (.ListComp elt [⟨tg, iter, ifs, 0⟩] scope pos) ss O (.dat (.list ds)) O1 := EN.frz (en_lj h hN hc hs)
theorem x_lst {ds : List PyData} (h : AV X R es ss O (ds.map .dat) O') (hl : ds.length ≤ 16777216 := by (simp only [List.length_cons, List.length_nil]; decide)) : EV X R (.List es pos) ss O (.dat (.list ds)) O' := EN.frz (en_lst h rfl (line24 hl))
theorem x_tup {ds : List PyData} {x1 : Nat} (h : AV X R es ss O (ds.map .dat) O') (hl : ds.length ≤ 16777216 := by (simp only [List.length_cons, List.length_nil]; decide)) : EV X R (.Tuple es x1 pos) ss O (.dat (.tuple ds)) O' := ev_tup h rfl (line24 hl)
theorem x_join {s : Str} {xs : List (List Nat)} {apos : Pos} (ha : EV X R a ss O (.dat (.str s)) O1) (hf : EV X R f ss O1 (.dat d) O2) (hd : d = .list (xs.map dS)) (hz : xs.flatten.length ≤ 16777216) (hs : s = sL [] := by first | rfl | decide +kernel)
    (he : starEach [f] X.env = [(false, eval f X.env)] := by exact star_ne rfl) (hbase : attributeBase a "join" X.env (eval a X.env) = eval a X.env := by rfl) (hline : (apos.endLine == pos.line) = true := by rfl) : EV X R (.Call (.Attribute a "join" apos) [f] [] pos) ss O (.dat (dS xs.flatten)) O2 := by
  subst hd
  exact ev_join ha hs hf rfl hz he hbase hline
/-- "".join([f(z) for z in xs]) -/
theorem x_joinM {α : Type} {s : Str} {xs : List α} {g : α → List Nat} {apos : Pos} (ha : EV X R a ss O (.dat (.str s)) O1) (hf : EV X R f ss O1 (.dat (.list (xs.map fun z => dS (g z)))) O2) (hz : (xs.flatMap g).length ≤ 16777216) (hs : s = sL [] := by first | rfl | decide +kernel)
    (he : starEach [f] X.env = [(false, eval f X.env)] := by exact star_ne rfl) (hbase : attributeBase a "join" X.env (eval a X.env) = eval a X.env := by rfl) (hline : (apos.endLine == pos.line) = true := by rfl) : EV X R (.Call (.Attribute a "join" apos) [f] [] pos) ss O (.dat (dS (xs.flatMap g))) O2 := by
  have e : (xs.map fun z => dS (g z)) = (xs.map g).map dS := by rw [List.map_map]; rfl
  rw [e] at hf
  rw [List.flatMap_def] at hz ⊢
  exact x_join ha hf rfl hz hs he hbase hline
theorem x_isN {j : Nat} {p2 : Pos} (ha : EV X R a ss O (.dat d1) O1) : EV X R (.Compare a [.Is] [.Constant .none j p2] pos) ss O (.dat (.bool (match d1 with | .none => true | _ => false))) O1 := ev_isN ha
theorem t_isN {j : Nat} {p2 : Pos} (ha : EV X R a ss O (.dat d1) O1) : TV X R (.Compare a [.Is] [.Constant .none j p2] pos) ss O (match d1 with | .none => true | _ => false) O1 :=
  tv_cmp op_isN ha ev_non (fun G0 H0 G H σ ss x y S h1 h2 Q q => by
    cases h2
    refine ⟨rfl, ?_⟩
    cases h1 <;> exact q.d S (Ex.refl G) (DP.bl _) ⟨rfl, rfl⟩) (nomark _)
theorem t_notN {j : Nat} {p2 : Pos} (ha : EV X R a ss O (.dat d1) O1) : TV X R (.Compare a [.IsNot] [.Constant .none j p2] pos) ss O (match d1 with | .none => false | _ => true) O1 :=
  tv_cmp op_notN ha ev_non (fun G0 H0 G H σ ss x y S h1 h2 Q q => by
    cases h2
    refine ⟨rfl, ?_⟩
    cases h1 <;> exact q.d S (Ex.refl G) (DP.bl _) ⟨rfl, rfl⟩) (nomark _)
/-- sum(d.values()), sum([..]) -/
theorem x_sumL {ds : List PyData} {ns : List Int} {p : Pos} (ha : EV X R e ss O (.dat d) O1) (hd : d = .list (ns.map PyData.int)) (hc : X.calm = true) (hm : X.mg "sum" = none) (hx : x = "sum" := by rfl) (hg : Gl X x := by rfl) (he : starEach [e] X.env = (false, eval e X.env) :: starEach [] X.env := by exact star_ne rfl) :
    EV X R (.Call (.Name x p) [e] [] pos) ss O (.dat (.int ns.sum)) O1 := by
  subst hx hd
  refine ej_b1 (cr_sum hc) ha (fun G0 H0 G H σ ss xs S h1 Q w => ?_) hm boot_sum hg (by decide) (by decide) he
  obtain ⟨v, rfl, r⟩ := kinds_one h1
  obtain ⟨q, vs, rfl, g1, rv⟩ := dp_lst r
  have ev := dps_ints rv
  subst ev
  exact ⟨q, ns, rfl, .of (S.gh _ _ g1), w.d S (Ex.refl G) (DP.int _) ⟨rfl, rfl⟩⟩
end
end Dl
end
section
/-! defs that are functions of data -/
namespace Dl
open PySem PySem.Spec PyProof.Rows L2
open Evl (Ex)
/-- the promise of a def that is a function of data, told by a relation -/
def PF (F : List PyData → PyData → Prop) : DSp := fun ks B k _ => ∃ ds d, ks = ds.map Kd.dat ∧ B = [] ∧ F ds d ∧ k (.dat d) []
/-- what its body must show -/
abbrev DF (d : PyData) : DE := { nx := fun _ _ => d = .none, rt := fun k _ => k = .dat d }
section
variable {P : Program} {w : World} {K : PySem.W.Frag} {mg : Str → Option Value} {base : Heap}
theorem cal_pf {x : Str} {st : Stmt} {N ps : List Str} {n : Nat} {F : List PyData → PyData → Prop} (Df : Dfn K mg x st) (S : FnScope N ps (defScope st))
    (hb : ∀ (kV doc pm : Value) (an : Option Addr) (cdv ct : Value) (us : List Value), us.length = ps.length → bindArgs (PySem.W.fnOf x x (defArgs st) (defBody st) (defScope st) .none kV doc pm an cdv ct) ⟨us, []⟩ = pure (ps.zip us)) (len : ∀ ds d, F ds d → ds.length = ps.length)
    (hbody : ∀ (f : Addr) (cdv : Value) (A : Around) (outer : List Env) (s : Shared) (H : Hp) (E : XK) (R : Addr → Prop) (ds : List PyData) (d : PyData), Room n (A.deeper (envOfC x (defScope st) s.heap.objs.size f cdv)) → F ds d →
      SJ (cxOf (L2.CX P w) P w K mg base N x (defScope st) f cdv A outer s H E) R (defBody st) (startK N (ds.map .dat)) [] (DF d)) : Cal P w K mg base x (n + 1) ps (PF F) :=
  cal_of Df S hb (fun ks B k R ⟨ds, d, e, _, hF, _⟩ => by rw [e, List.length_map]; exact len ds d hF) fun f cdv A outer s H E ks B k R hr ⟨ds, d, e1, e2, hF, hk⟩ => by
    subst e1 e2
    refine (hbody f cdv A outer s H E R ds d hr hF).imp ?_ ?_ (fun _ _ h => h) (fun _ _ h => h)
    · rintro ss O rfl
      exact fin0 hk
    · rintro k' O rfl
      exact fin0 hk
end
section
variable {X : Cx} {R : Addr → Prop} {e a : Expr} {es : List Expr} {ss : List Kd} {O O1 O2 O' : Store} {k : Kd} {ks : List Kd} {pos : Pos}
theorem x_call {n m : Nat} {ps : List Str} {F : List PyData → PyData → Prop} {x : Str} {p : Pos} {ds : List PyData} {d : PyData} (C : Cal X.prog X.w X.K X.mg X.base x n ps (PF F)) (ha : AV X R (e :: es) ss O (ds.map .dat) O1) (h : F ds d) (hr : Room m X.A) (hl : n ≤ m := by decide) (hg : Gl X x := by rfl)
    (hdb : (x == ("__debug__" : Str)) = false := by decide) (he : starEach (e :: es) X.env = (false, eval e X.env) :: starEach es X.env := by exact star_ne rfl) (hpl : (backTo pos (starEach es X.env)).any (·.1) = false := by rfl) : EV X R (.Call (.Name x p) (e :: es) [] pos) ss O (.dat d) O1 :=
  ev_cal C hr hl ha ⟨ds, d, rfl, rfl, h, rfl, rfl⟩ hg hdb he hpl
theorem a_nil : AV X R [] ss O (([] : List PyData).map .dat) O := av_nil
theorem a_cons {d : PyData} {ds : List PyData} (h : EV X R e ss O (.dat d) O1) (h2 : AV X R es ss O1 (ds.map .dat) O') (hs : starEach (e :: es) X.env = (false, eval e X.env) :: starEach es X.env := by exact star_ne rfl) : AV X R (e :: es) ss O ((d :: ds).map .dat) O' := av_cons h h2 hs
end
end Dl
end
section
/-! sorted signs -/
namespace Dl
open PySem PySem.Spec PyProof.Rows L2
open Evl (Ex)
/-- the different signs, ascending -/
def dsg (t : List Nat) : List Nat := (setT (t.map fun c => [c])).map fun s => s.getD 0 0
theorem setT_one (t : List Nat) : setT (t.map fun c => [c]) = (dsg t).map fun c => [c] := by
  unfold dsg
  rw [List.map_map]
  refine (List.map_id _).symm.trans (List.map_congr_left fun s hs => ?_)
  obtain ⟨c, _, rfl⟩ := List.mem_map.mp ((setT_mem _ _).mp hs)
  rfl
theorem dsg_mem {t : List Nat} {c : Nat} : c ∈ dsg t ↔ c ∈ t := by
  have h := setT_mem (t.map fun c => [c]) [c]
  rw [setT_one] at h
  simpa using h
theorem sgl_lt {a b : Nat} : ([a] : List Nat) < [b] ↔ a < b := by
  constructor
  · intro h
    rcases List.cons_lt_cons_iff.mp h with h | ⟨_, h⟩
    · exact h
    · exact absurd h (List.not_lt_nil _)
  · intro h
    exact List.cons_lt_cons_iff.mpr (.inl h)
theorem dsg_sorted (t : List Nat) : (dsg t).Pairwise (· < ·) := by
  have h := setT_sorted (t.map fun c => [c])
  rw [setT_one, List.pairwise_map] at h
  exact h.imp fun h => sgl_lt.mp h
theorem dsg_nodup (t : List Nat) : (dsg t).Nodup := (dsg_sorted t).imp fun h => Nat.ne_of_lt h
theorem dsg_len (t : List Nat) : (dsg t).length ≤ t.length := by
  unfold dsg
  rw [List.length_map]
  refine Nat.le_trans (setT_len _) ?_
  rw [List.length_map]
  exact Nat.le_refl _
theorem lt_uniqN : ∀ {l1 l2 : List Nat}, l1.Pairwise (· < ·) → l2.Pairwise (· < ·) → (∀ z, z ∈ l1 ↔ z ∈ l2) → l1 = l2 := fun {l1 l2} h1 h2 h => by
  have p : l1.Perm l2 := (List.perm_ext_iff_of_nodup (h1.imp fun h => Nat.ne_of_lt h) (h2.imp fun h => Nat.ne_of_lt h)).mpr h
  exact perm_uniq (le := fun a b => a < b) (fun a b h h' => absurd h (Nat.lt_asymm h')) p h1 h2
theorem dsg_self {l : List Nat} (h : l.Pairwise (· < ·)) : dsg l = l := lt_uniqN (dsg_sorted l) h fun _ => dsg_mem
theorem dsg_congr {l l' : List Nat} (h : ∀ c, c ∈ l ↔ c ∈ l') : dsg l = dsg l' := lt_uniqN (dsg_sorted l) (dsg_sorted l') fun z => by rw [dsg_mem, dsg_mem, h]
section
variable {X : Cx} {R : Addr → Prop} {e a b c elt iter iter1 : Expr} {es ifs : List Expr} {ss : List Kd} {O O1 O2 O3 O' : Store} {k ka kb : Kd} {ks : List Kd} {Φ Ψ : Kd → Store → Prop} {pos px py p : Pos} {n : Nat} {x y : Str} {scope : Scope} {α β : Type} {d : PyData}
/-- sorted(set(text)) -/
theorem x_sortSetS {l : List Nat} {x y : Str} {p p2 pos2 : Pos} (ha : EV X R e ss O (.dat (dS l)) O1) (U : List Nat) (hU : ∀ c ∈ l, c ∈ U) (hl : U.length ≤ 4000) (B : Bn X.mg) (hc : X.calm = true := by rfl) (hx : x = "sorted" := by rfl) (hy : y = "set" := by rfl) (hg : Gl X x := by rfl) (hg2 : Gl X y := by rfl)
    (he : starEach [e] X.env = (false, eval e X.env) :: starEach [] X.env := by exact star_ne rfl) (he2 : starEach [.Call (.Name y p2) [e] [] pos2] X.env = (false, eval (.Call (.Name y p2) [e] [] pos2) X.env) :: starEach [] X.env := by exact star_ne rfl) :
    EV X R (.Call (.Name x p) [.Call (.Name y p2) [e] [] pos2] [] pos) ss O (.dat (.list ((dsg l).map fun c => dS [c]))) O1 := by
  have h := EN.frz (en_sortTx (pos := pos) (p := p) (ej_setS (pos := pos2) (p := p2) ha U hU hl hc B.set hy hg2 he) hc B.sorted hx hg he2)
  rw [setT_one, List.map_map] at h
  exact h
/-- sorted(set(list of signs)) -/
theorem x_sortSetL {l : List Nat} {x y : Str} {p p2 pos2 : Pos} (ha : EV X R e ss O (.dat d) O1) (hd : d = .list (l.map fun c => dS [c])) (U : List Nat) (hU : ∀ c ∈ l, c ∈ U) (hl : U.length ≤ 1000) (B : Bn X.mg) (hc : X.calm = true := by rfl) (hx : x = "sorted" := by rfl) (hy : y = "set" := by rfl) (hg : Gl X x := by rfl) (hg2 : Gl X y := by rfl)
    (he : starEach [e] X.env = (false, eval e X.env) :: starEach [] X.env := by exact star_ne rfl) (he2 : starEach [.Call (.Name y p2) [e] [] pos2] X.env = (false, eval (.Call (.Name y p2) [e] [] pos2) X.env) :: starEach [] X.env := by exact star_ne rfl) :
    EV X R (.Call (.Name x p) [.Call (.Name y p2) [e] [] pos2] [] pos) ss O (.dat (.list ((dsg l).map fun c => dS [c]))) O1 := by
  subst hd
  have h := EN.frz (en_sortSetL (pos := pos) (p := p) (pos2 := pos2) (p2 := p2) (xs := l.map fun c => [c]) ha (by rw [List.map_map]; rfl) (U.map fun c => [c]) (fun x hx => by obtain ⟨c, hc, rfl⟩ := List.mem_map.mp hx; exact List.mem_map_of_mem (f := fun c => [c]) (hU c hc)) (by rw [List.length_map]; exact hl) hc B.sorted B.set hx hy hg hg2 he he2)
  rw [setT_one, List.map_map] at h
  exact h
/-- sorted(text), the signs of it all different -/
theorem x_sortS {l : List Nat} {x : Str} {p : Pos} (ha : EV X R e ss O (.dat (dS l)) O1) (hn : l.Nodup) (hl : l.length ≤ 16777216) (B : Bn X.mg) (hc : X.calm = true := by rfl) (hx : x = "sorted" := by rfl) (hg : Gl X x := by rfl) (he : starEach [e] X.env = (false, eval e X.env) :: starEach [] X.env := by exact star_ne rfl) :
    EV X R (.Call (.Name x p) [e] [] pos) ss O (.dat (.list ((dsg l).map fun c => dS [c]))) O1 := by
  have h := EN.frz (en_sortS (pos := pos) (p := p) ha hl hc B.sorted hx hg he)
  have e1 : srtT (l.map fun c => [c]) = (dsg l).map fun c => [c] := by
    refine perm_uniq (le := fun a b => ¬ b < a) (fun a b h1 h2 => tx_anti a b h1 h2) ((srtT_perm _).trans ?_) (srtT_sorted _) ?_
    · exact (List.perm_ext_iff_of_nodup hn (dsg_nodup l)).mpr (fun z => dsg_mem.symm) |>.map _
    · rw [List.pairwise_map]
      exact (dsg_sorted l).imp fun {a b} h h2 => by rw [sgl_lt] at h2; omega
  rw [e1, List.map_map] at h
  exact h
theorem accS_list {xs : List α} {ys : α → List β} {f : α → β → Tx} (z0 : α) (g : α → Nat → Tx) (hg : ∀ z (i : Nat) (h : i < (ys z).length), g z i = f z (ys z)[i]) :
    accS (fun i j => g (xs.getD i z0) j) (fun i => (ys (xs.getD i z0)).length) xs.length = xs.flatMap fun z => (ys z).map (f z) := by
  unfold accS
  have e1 : ∀ z, (List.range (ys z).length).map (g z) = (ys z).map (f z) := fun z => List.ext_getElem (by simp) fun i h1 h2 => by
    have hi : i < (ys z).length := by simpa using h2
    simp [hg z i hi]
  have e2 : (fun i => (List.range (ys (xs.getD i z0)).length).map fun j => g (xs.getD i z0) j) = (fun z => (ys z).map (f z)) ∘ fun i => xs.getD i z0 := by
    funext i
    exact e1 _
  rw [e2]
  have e3 : (List.range xs.length).map (fun i => xs.getD i z0) = xs := List.ext_getElem (by simp) fun i h1 h2 => by
    have hi : i < xs.length := by simpa using h2
    simp [List.getD_eq_getElem?_getD, hi]
  conv => rhs; rw [← e3]
  rw [List.flatMap_map]
  rfl
/-- sorted({elt for x in iter for y in iter1}), the elements signs -/
theorem x_sortSc2 (v u : Nat) {xs : List α} {inj : α → Kd} {ys : α → List β} {g : β → PyData} {f : α → β → Nat} {y0 : β} {z0 : Str} {p : Pos} (hvu : v ≠ u) (hi : IL X R (.Name x px) iter ss O xs inj O1) (ok : BlkOk X.N X.env.scope scope [(x, v), (y, u)]) (hN : X.N.Nodup)
    (h1 : ∀ z, z ∈ xs → ∀ s H C cl fp, EV (Bk X scope s H C cl fp) No iter1 ((((ss.set u .und).set v .und).set v (inj z))) O1 (.dat (.tuple ((ys z).map g))) O1)
    (h2 : ∀ z, z ∈ xs → ∀ q, q ∈ ys z → ∀ s H C cl fp, EV (Bk X scope s H C cl fp) No elt (((((ss.set u .und).set v .und).set v (inj z)).set u .und).set u (.dat (g q))) O1 (.dat (dS [f z q])) O1)
    (hm : (xs.flatMap fun z => (ys z).map (f z)).length ≤ 1000) (B : Bn X.mg) (hc : X.calm = true := by rfl) (hs0 : z0 = "sorted" := by rfl) (hg0 : Gl X z0 := by rfl)
    (hx : X.N[v]? = some x := by rfl) (hlx : ∀ s H C cl fp, Loc (Bk X scope s H C cl fp).env.scope x := by intro _ _ _ _ _; first | exact Or.inl rfl | exact Or.inr rfl) (hfx : ∀ s H C cl fp, (Bk X scope s H C cl fp).fn x = true ∨ (Bk X scope s H C cl fp).env.scope.names.lookup x = some .local := by intro _ _ _ _ _; first | exact .inl rfl | exact .inr rfl)
    (hy : X.N[u]? = some y := by rfl) (hly : ∀ s H C cl fp, Loc (Bk X scope s H C cl fp).env.scope y := by intro _ _ _ _ _; first | exact Or.inl rfl | exact Or.inr rfl) (hfy : ∀ s H C cl fp, (Bk X scope s H C cl fp).fn y = true ∨ (Bk X scope s H C cl fp).env.scope.names.lookup y = some .local := by intro _ _ _ _ _; first | exact .inl rfl | exact .inr rfl)
    (hs : ∀ x, foldedSetIterable iter X.env x = pure x := by intro _; rfl) (hs1 : ∀ env x, foldedSetIterable iter1 env x = pure x := by intro _ _; rfl)
    (he : starEach [.SetComp elt [⟨.Name x px, iter, [], 0⟩, ⟨.Name y py, iter1, [], 0⟩] scope pos] X.env = (false, eval (.SetComp elt [⟨.Name x px, iter, [], 0⟩, ⟨.Name y py, iter1, [], 0⟩] scope pos) X.env) :: starEach [] X.env := by exact star_ne rfl) {pos2 : Pos} :
    EV X R (.Call (.Name z0 p) [.SetComp elt [⟨.Name x px, iter, [], 0⟩, ⟨.Name y py, iter1, [], 0⟩] scope pos] [] pos2) ss O (.dat (.list ((dsg (xs.flatMap fun z => (ys z).map (f z))).map fun c => dS [c]))) O1 := by
  have eT : (xs.flatMap fun z => (ys z).map fun q => [f z q]) = (xs.flatMap fun z => (ys z).map (f z)).map fun c => [c] := by
    rw [List.map_flatMap]
    congr 1
    funext z
    rw [List.map_map]
    rfl
  have key : ∀ {Y : List Tx} , Y = (xs.flatMap fun z => (ys z).map fun q => [f z q]) → (EJ X R (.SetComp elt [⟨.Name x px, iter, [], 0⟩, ⟨.Name y py, iter1, [], 0⟩] scope pos) ss O fun k O' => ∃ p c, k = .val (.ref p) ∧ O' = (p, TxOb X.w p Y c) :: O1) → EV X R (.Call (.Name z0 p) [.SetComp elt [⟨.Name x px, iter, [], 0⟩, ⟨.Name y py, iter1, [], 0⟩] scope pos] [] pos2) ss O (.dat (.list ((dsg (xs.flatMap fun z => (ys z).map (f z))).map fun c => dS [c]))) O1 := by
    intro Y eY h
    have q := EN.frz (en_sortTx (pos := pos2) (p := p) h hc B.sorted hs0 hg0 he)
    rw [eY, eT, setT_one, List.map_map] at q
    exact q
  cases xs with
  | nil => exact key rfl (ej_sc2 v u (fun _ => []) (fun _ _ => []) hvu ok hN hc hi (fun i hi => absurd hi (Nat.not_lt_zero _)) (fun i j hi => absurd hi (Nat.not_lt_zero _)) (by simp [accS]) (fun i hi => by simp [Nat.le_zero.mp hi]) hx hlx hfx hy hly hfy hs hs1)
  | cons z1 zs =>
    generalize hxs : z1 :: zs = xs at *
    have el : (fun i => ((ys (xs.getD i z1)).map g).length) = fun i => (ys (xs.getD i z1)).length := by funext i; rw [List.length_map]
    have ea := accS_list (xs := xs) (ys := ys) (f := fun z q => [f z q]) z1 (fun z j => [f z ((ys z).getD j y0)]) (fun z i h => by simp [List.getD_eq_getElem?_getD, h])
    refine key ?_ (ej_sc2 v u (fun i => (ys (xs.getD i z1)).map g) (fun i j => [f (xs.getD i z1) ((ys (xs.getD i z1)).getD j y0)]) hvu ok hN hc hi (fun i hlt s H C cl fp => ?_) (fun i j hlt hj s H C cl fp => ?_) ?_ (fun i hle => ?_) hx hlx hfx hy hly hfy hs hs1)
    · rw [el]
      exact ea
    · rw [itemL_at hlt, List.getD_eq_getElem?_getD, List.getElem?_eq_getElem hlt]
      exact h1 _ (List.getElem_mem hlt) s H C cl fp
    · rw [List.length_map] at hj
      have hz : xs.getD i z1 = xs[i] := by rw [List.getD_eq_getElem?_getD, List.getElem?_eq_getElem hlt]; rfl
      rw [hz] at hj ⊢
      rw [itemL_at hlt]
      have := h2 _ (List.getElem_mem hlt) _ (List.getElem_mem hj) s H C cl fp
      have e1 : ((ys xs[i]).map g).getD j .none = g (ys xs[i])[j] := by simp [List.getD_eq_getElem?_getD, hj]
      have e2 : (ys xs[i]).getD j y0 = (ys xs[i])[j] := by simp [List.getD_eq_getElem?_getD, hj]
      rw [e1, e2]
      exact this
    · rw [el, ea, eT, List.length_map]
      exact hm
    · rw [el]
      clear ea
      have : ∀ (ff : Nat → Nat → Tx) (m : Nat → Nat) {i n : Nat}, i ≤ n → (accS ff m i).length ≤ (accS ff m n).length := by
        intro ff m i n h
        induction n with
        | zero => rw [Nat.le_zero.mp h]; exact Nat.le_refl _
        | succ n ih =>
          rcases Nat.lt_or_eq_of_le h with h1 | rfl
          · rw [accS_succ, List.length_append]
            exact Nat.le_trans (ih (Nat.le_of_lt_succ h1)) (Nat.le_add_right _ _)
          · exact Nat.le_refl _
      exact this _ _ hle
theorem x_getO (j : Nat) {o e f : Expr} {ss : List Kd} {O : Store} {q : Addr} {kvs : List (Str × PyData)} {s : Str} {d d' : PyData} {apos pos : Pos} {n : Nat} (ho : EV X R o ss O (.val (.ref q)) O) (he : EV X R e ss O (.dat (.str s)) O) (hf : EV X R f ss O (.dat d) O) (hj : O[j]? = some (q, .od kvs)) (hd : (getT kvs s).getD d = d') (hr : Room n X.A)
    (hbase : attributeBase o "get" X.env (eval o X.env) = eval o X.env := by rfl) (hs1 : starEach [e, f] X.env = [(false, eval e X.env), (false, eval f X.env)] := by first | rfl | exact (star_ne rfl).trans (congrArg _ (star_ne rfl)))
    (hline : (apos.endLine == pos.line) = true := by rfl) : EV X R (.Call (.Attribute o "get" apos) [e, f] [] pos) ss O (.dat d') O := by
  subst hd
  exact ev_dgetO j (by have := hr.units; omega) ho he hf hj hbase hs1 hline
theorem sj_put (j : Nat) {e o f : Expr} {rest : List Stmt} {D : DE} {ss : List Kd} {O : Store} {q : Addr} {kvs kvs' : List (Str × PyData)} {s : Str} {d : PyData} {ppos pos : Pos} {n : Nat} (hv : EV X R e ss O (.dat d) O) (ho : EV X R o ss O (.val (.ref q)) O) (hi : EV X R f ss O (.dat (.str s)) O) (hj : O[j]? = some (q, .od kvs)) (hl : kvs.length < 16777216) (hk : putT kvs s d = kvs')
    (h : SJ X R rest ss (O.set j (q, .od kvs')) D) (hr : Room n X.A) (hs : swapsWith e (some (.Subscript o f ppos)) pos.line X.env = pure false := by rfl) : SJ X R (.Assign [.Subscript o f ppos] e pos :: rest) ss O D := by
  subst hk
  exact sj_dput j (by have := hr.units; omega) hv ho hi hj hl h hs
end
end Dl
end
section
/-! sum(d.values()) -/
namespace Dl
open PySem PySem.Spec PyProof.Rows L2
open Evl (Ex)
theorem preSum_list (is : List Int) : ∀ n, n ≤ is.length → preSum (fun i => is.getD i 0) n = (is.take n).sum
  | 0, _ => by simp [preSum]
  | n + 1, h => by
    have e : is.take (n + 1) = is.take n ++ [is[n]] := List.take_succ_eq_append_getElem h
    show preSum (fun i => is.getD i 0) n + is.getD n 0 = _
    rw [preSum_list is n (by omega), e, List.sum_append, List.getD_eq_getElem?_getD, List.getElem?_eq_getElem h]
    simp
section
variable {X : Cx} {o : Expr} {p pos apos mpos : Pos} {td : TE}
def tSumVals (td : TE) : TE := fun σ H Q => td σ H fun x H1 => ∃ (a : Addr) (ob : Obj) (kvs : List (Key × V)) (is : List Int), x = V.ref a ∧ H1 a = some (.frz ob (.dK kvs)) ∧ kvs.map (·.2) = is.map V.int ∧ Q (.int is.sum) H1
theorem pe_sumVals (hc : X.calm = true) (hg : Gl X "sum") (hm : X.mg "sum" = none) (hd : PE X o td) (hbase : attributeBase o "values" X.env (eval o X.env) = eval o X.env := by rfl) (hline : (apos.endLine == mpos.line) = true := by rfl)
    (hse : starEach [Expr.Call (.Attribute o "values" apos) [] [] mpos] X.env = [(false, eval (Expr.Call (.Attribute o "values" apos) [] [] mpos) X.env)] := by rfl) :
    PE X (.Call (.Name "sum" p) [.Call (.Attribute o "values" apos) [] [] mpos] [] pos) (tSumVals td) := by
  refine ⟨fun pins s σ H Q I h => ?_⟩
  refine wpAny_Call_Name_kw (ld_blt I hg hm (u := .builtin "sum") (by first | rfl | decide +kernel) ?_ (by first | decide +kernel | decide) (by first | decide +kernel | decide))
  rw [hse]
  refine PySem.callWith_builtin1 (wpAny_Call_method0_late hbase hline (thn (hd.run pins s σ H _ I h) fun v s1 ⟨x, H1, I1, r1, a, ob0, kvs, is, ex, ha, hv, q⟩ => ?_))
  subst ex
  obtain rfl : v = Value.ref a := r1
  have ha1 : ObjOk X.prog X.w H1 s1.heap a (.dK kvs) := (I1.hok a _ ha).2
  obtain ⟨_, hsys, vs, rel, dof⟩ := ha1
  obtain ⟨ep, dat⟩ := dof.dictAt
  have dat' := dat
  obtain ⟨ob, es, ho, ex, hdat, hko, hpr, hnd⟩ := dat'
  refine ⟨"dict", "dict.values", F.plainAttrs_dict, F.slot_dict_values, F.type_dict_values, ⟨ob, ho, ex.1⟩, fun b e => ?_, Calls.callWith_builtin rfl (PySem.evalArgs_none ?_)⟩
  · cases e
    exact ⟨ob, ho, ex.2.1⟩
  refine call_meetsIn F.slot_dict_values ⟨ob, ho, ex.1⟩ F.entry_dict_values (F.args_dict_values_1 _) (meets_dict_values (mixKind X.prog X.w) a hsys) ⟨⟨vs, dof⟩, ?_⟩
  have k1 : ∀ b u, s1.heap.get? b = some u → (s1.heap.push { cls := .type "dict_values", data := .fields #[.ref a] }).get? b = some u := fun b u e => Heap.get?_push_of_some _ e
  have dat1 : (s1.heap.push { cls := .type "dict_values", data := .fields #[.ref a] }).DictAt (mixKind X.prog X.w) a vs ep := dat.keep k1
  have hlv : vs.length = is.length := by
    have e1 := congrArg List.length hv
    rw [List.length_map, List.length_map] at e1
    rw [← e1]
    exact (KV.length rel).symm
  have hval : ∀ (i : Nat) (v : Value), (∃ k, vs[i]? = some (k, v)) → ∃ t, v = Value.int (is.getD i 0) t := fun i v ⟨k, hk⟩ => by
    obtain ⟨x, h1, h2⟩ := KV.at' rel hk
    have e1 : (kvs.map (·.2))[i]? = some x := by rw [List.getElem?_map, h1] <;> rfl
    rw [hv, List.getElem?_map] at e1
    obtain ⟨j, hj, e2⟩ := Option.map_eq_some_iff.mp e1
    subst e2
    obtain ⟨t, e3⟩ := h2
    refine ⟨t, ?_⟩
    rw [e3, List.getD_eq_getElem?_getD, hj] <;> rfl
  refine PySem.call_sum_walkG (wpAny_pyIter_values (v := s1.heap.objs.size) (d := a) ⟨_, Heap.get?_push_size _ rfl, rfl, rfl⟩ dat1 ?_)
  have hlt : a < s1.heap.objs.size := Heap.lt_size ho
  have hsz : (s1.heap.push { cls := .type "dict_values", data := .fields #[.ref a] }).objs.size = s1.heap.objs.size + 1 := Heap.size_push _ _
  refine ⟨_, _, _, _, _, _, _, rfl, PySem.Walks.dictValues (knd := mixKind X.prog X.w) (A := X.A.in1) (I.ok.hd hc) (s1.heap.push { cls := .type "dict_values", data := .fields #[.ref a] }).objs.size a (by rw [hsz]; exact Nat.ne_of_lt (Nat.lt_succ_of_lt hlt)) vs ep,
    ⟨⟨_, Heap.get?_push_size _ rfl, rfl, rfl⟩, dat1.keep fun b u e => Heap.get?_push_of_some _ e⟩, fun b hb => ?_, hval, fun h' tk t' hk => ?_⟩
  · show b < ((s1.heap.push _).push _).objs.size
    rw [Heap.size_push, Heap.size_push]
    rw [hsz] at hb
    rcases List.mem_cons.mp hb with e | hb
    · rw [e]
      exact Nat.lt_succ_self _
    · have e : b = a := List.mem_singleton.mp hb
      rw [e]
      exact Nat.lt_succ_of_lt (Nat.lt_succ_of_lt hlt)
  · have es : preSum (fun i => is.getD i 0) vs.length = is.sum := by rw [preSum_list is _ (Nat.le_of_eq hlv), hlv, List.take_length]
    rw [es]
    refine ⟨.int _, H1, I1.kept (t' := tk) fun b u e => hk b u (fun hmem => ?_) (Heap.get?_push_of_some _ (k1 b u e)), ⟨t', rfl⟩, q⟩
    have e1 : b = (s1.heap.push { cls := .type "dict_values", data := .fields #[.ref a] }).objs.size := List.mem_singleton.mp hmem
    have e2 := Heap.lt_size e
    rw [hsz] at e1
    rw [e1] at e2
    exact absurd e2 (Nat.not_lt.mpr (Nat.le_succ _))
end
section
variable {X : Cx} {R : Addr → Prop} {e : Expr} {ss : List Kd} {O O1 : Store} {p pos apos mpos : Pos}
theorem kv_ints {G : Hp} : ∀ {ws : List (Key × V)} {kvs : List (Str × PyData)} {is : List Int}, KvD G ws kvs → kvs.map (·.2) = is.map PyData.int → ws.map (·.2) = is.map V.int
  | _, _, [], .nil, _ => rfl
  | _, _, i :: is, .nil, h => by simp at h
  | _, _, [], .cons _ _, h => by simp at h
  | w :: ws, q :: kvs, i :: is, .cons ⟨_, r⟩ t, h => by
    simp only [List.map_cons, List.cons.injEq] at h ⊢
    rw [h.1] at r
    exact ⟨dp_int r, kv_ints t h.2⟩
/-- sum(d.values()) -/
theorem x_sumVals {kvs : List (Str × PyData)} {is : List Int} {x : Str} (he : EV X R e ss O (.dat (dK kvs)) O1) (hi : kvs.map (·.2) = is.map PyData.int) (B : Bn X.mg) (hc : X.calm = true := by rfl) (hx : x = "sum" := by rfl) (hg : Gl X x := by rfl) (hbase : attributeBase e "values" X.env (eval e X.env) = eval e X.env := by rfl) (hline : (apos.endLine == mpos.line) = true := by rfl)
    (hse : starEach [Expr.Call (.Attribute e "values" apos) [] [] mpos] X.env = [(false, eval (Expr.Call (.Attribute e "values" apos) [] [] mpos) X.env)] := by rfl) :
    EV X R (.Call (.Name x p) [.Call (.Attribute e "values" apos) [] [] mpos] [] pos) ss O (.dat (.int is.sum)) O1 := by
  subst hx
  exact fun G0 H0 G H σ S L Q q => wE_of (pe_sumVals hc hg B.sum peW hbase hline hse) (he G0 H0 G H σ S L _ fun G1 H1 v k O2 S1 e1 r1 ⟨h1, h2⟩ => by
    subst h1 h2
    obtain ⟨a, o, ws, rfl, ha, hk⟩ := dp_dict r1
    exact ⟨a, o, ws, is, rfl, S1.gh _ _ ha, kv_ints hk hi, q.d S1 e1 (DP.int _) ⟨rfl, rfl⟩⟩)
end
end Dl
end
section
/-! defs with a keyword of its own: times=1; defs with a default -/
namespace Dl
open PySem PySem.Spec PyProof.Rows L2
open Evl (Ex)
/-- a def of the text with the keyword times=1 -/
structure DfnT (K : PySem.W.Frag) (mg : Str → Option Value) (x : Str) (st : Stmt) : Prop where
  ex : ∃ f fd, FunD K x x (defArgs st) (defBody st) (defScope st) [] [("times", V.int 1)] f fd ∧ mg x = some (.ref f)
structure CalT (P : Program) (w : World) (K : PySem.W.Frag) (mg : Str → Option Value) (base : Heap) (x : Str) (n : Nat) (ps : List Str) (T : DSp) : Prop where
  ex : ∃ f fd, mg x = some (.ref f) ∧ PySem.W.keepIn K (.ref f) = true ∧ (∃ ds, Vals [V.int 1] ds ∧ Binds K fd ps ds) ∧ KBn K fd ps 2 ["times"] (fun us ws => us ++ ws) (fun vs zs => vs ++ zs) ∧ FD P w K mg base n f fd ps T
/-- a def of the text with one default, an int -/
structure DfnI (K : PySem.W.Frag) (mg : Str → Option Value) (x : Str) (st : Stmt) (i : Int) : Prop where
  ex : ∃ f fd, FunD K x x (defArgs st) (defBody st) (defScope st) [V.int i] [] f fd ∧ mg x = some (.ref f)
/-- called without its default -/
structure CalI (P : Program) (w : World) (K : PySem.W.Frag) (mg : Str → Option Value) (base : Heap) (x : Str) (n : Nat) (ps : List Str) (i : Int) (T : DSp) : Prop where
  ex : ∃ f fd, mg x = some (.ref f) ∧ PySem.W.keepIn K (.ref f) = true ∧ (∃ ds, Vals [V.int i] ds ∧ Binds K fd ps ds) ∧ FD P w K mg base n f fd ps T
section
variable {P : Program} {w : World} {K : PySem.W.Frag} {mg : Str → Option Value} {base : Heap}
theorem calT_of {x : Str} {st : Stmt} {N ps : List Str} {n : Nat} {T : DSp} (Df : DfnT K mg x st) (S : FnScope N ps (defScope st)) (hps : ps.length = 3)
    (hb0 : ∀ (D : Addr) (doc pm : Value) (an : Option Addr) (cdv ct : Value) (us ks : List Value), us.length = 2 → ks.length = 1 → KwChain D (([("times", V.int 1)].map (·.1)).zip ks) (bindArgs (PySem.W.fnOf x x (defArgs st) (defBody st) (defScope st) .none (.ref D) doc pm an cdv ct) ⟨us, []⟩) (ps.zip (us ++ ks)))
    (hb1 : ∀ (kV doc pm : Value) (an : Option Addr) (cdv ct : Value) (us ws : List Value), us.length = 2 → ws.length = 1 → bindArgs (PySem.W.fnOf x x (defArgs st) (defBody st) (defScope st) .none kV doc pm an cdv ct) ⟨us, ([("times" : Str)]).zip ws⟩ = pure (ps.zip (us ++ ws)))
    (len : ∀ ks B k R, T ks B k R → ks.length = ps.length)
    (hbody : ∀ (f : Addr) (cdv : Value) (A : Around) (outer : List Env) (s : Shared) (H : Hp) (E : XK) (ks : List Kd) (B : Store) (k : Kd → Store → Prop) (R : Addr → Prop), Room n (A.deeper (envOfC x (defScope st) s.heap.objs.size f cdv)) → T ks B k R →
      SJ (cxOf (L2.CX P w) P w K mg base N x (defScope st) f cdv A outer s H E) R (defBody st) (startK N ks) B { nx := fun _ O' => fin k (.dat .none) O', rt := fin k }) : CalT P w K mg base x (n + 1) ps T := by
  obtain ⟨f, fd, F, g⟩ := Df.ex
  refine ⟨f, fd, g, F.kp, F.binds0 2 (by simp) (by simp [hps]) hb0, ?_, fd_okD F S len (hbody f)⟩
  obtain ⟨oc, od, dV, kV, doc, pm, an, cdv, ct, osl, rfl, lk, hcd, hD, hK⟩ := F.ex
  rcases hD with ⟨_, rfl⟩ | ⟨e, _⟩
  · exact ⟨fun s us ws X l1 l2 => BindsTo.of_eq (hb1 kV doc pm an cdv ct us ws l1 l2), fun r1 r2 => r1.append r2⟩
  · exact absurd rfl e
theorem calT_pf {x : Str} {st : Stmt} {N ps : List Str} {n : Nat} {F : List PyData → PyData → Prop} (Df : DfnT K mg x st) (S : FnScope N ps (defScope st)) (hps : ps.length = 3)
    (hb0 : ∀ (D : Addr) (doc pm : Value) (an : Option Addr) (cdv ct : Value) (us ks : List Value), us.length = 2 → ks.length = 1 → KwChain D (([("times", V.int 1)].map (·.1)).zip ks) (bindArgs (PySem.W.fnOf x x (defArgs st) (defBody st) (defScope st) .none (.ref D) doc pm an cdv ct) ⟨us, []⟩) (ps.zip (us ++ ks)))
    (hb1 : ∀ (kV doc pm : Value) (an : Option Addr) (cdv ct : Value) (us ws : List Value), us.length = 2 → ws.length = 1 → bindArgs (PySem.W.fnOf x x (defArgs st) (defBody st) (defScope st) .none kV doc pm an cdv ct) ⟨us, ([("times" : Str)]).zip ws⟩ = pure (ps.zip (us ++ ws)))
    (len : ∀ ds d, F ds d → ds.length = ps.length)
    (hbody : ∀ (f : Addr) (cdv : Value) (A : Around) (outer : List Env) (s : Shared) (H : Hp) (E : XK) (R : Addr → Prop) (ds : List PyData) (d : PyData), Room n (A.deeper (envOfC x (defScope st) s.heap.objs.size f cdv)) → F ds d →
      SJ (cxOf (L2.CX P w) P w K mg base N x (defScope st) f cdv A outer s H E) R (defBody st) (startK N (ds.map .dat)) [] (DF d)) : CalT P w K mg base x (n + 1) ps (PF F) :=
  calT_of Df S hps hb0 hb1 (fun ks B k R ⟨ds, d, e, _, hF, _⟩ => by rw [e, List.length_map]; exact len ds d hF) fun f cdv A outer s H E ks B k R hr ⟨ds, d, e1, e2, hF, hk⟩ => by
    subst e1 e2
    refine (hbody f cdv A outer s H E R ds d hr hF).imp ?_ ?_ (fun _ _ h => h) (fun _ _ h => h)
    · rintro ss O rfl
      exact fin0 hk
    · rintro k' O rfl
      exact fin0 hk
theorem calI_pf {x : Str} {st : Stmt} {N ps : List Str} {n : Nat} {i : Int} {F : List PyData → PyData → Prop} (Df : DfnI K mg x st i) (S : FnScope N ps (defScope st)) (m : Nat) (hm : m + 1 = ps.length)
    (hb : ∀ (T : Addr) (kV doc pm : Value) (an : Option Addr) (cdv ct : Value) (us its : List Value), us.length = m → its.length = 1 →
      ∃ k, bindArgs (PySem.W.fnOf x x (defArgs st) (defBody st) (defScope st) (.ref T) kV doc pm an cdv ct) ⟨us, []⟩ = seqItems? (.ref T) >>= k ∧ k (some its.toArray) = pure (ps.zip (us ++ its.drop 0)))
    (len : ∀ ds d, F ds d → ds.length = ps.length)
    (hbody : ∀ (f : Addr) (cdv : Value) (A : Around) (outer : List Env) (s : Shared) (H : Hp) (E : XK) (R : Addr → Prop) (ds : List PyData) (d : PyData), Room n (A.deeper (envOfC x (defScope st) s.heap.objs.size f cdv)) → F ds d →
      SJ (cxOf (L2.CX P w) P w K mg base N x (defScope st) f cdv A outer s H E) R (defBody st) (startK N (ds.map .dat)) [] (DF d)) : CalI P w K mg base x (n + 1) ps i (PF F) := by
  obtain ⟨f, fd, Fd, g⟩ := Df.ex
  refine ⟨f, fd, g, Fd.kp, Fd.binds1 m 0 (by simp) (by simpa using hm) hb, fd_okD Fd S (fun ks B k R ⟨ds, d, e, _, hF, _⟩ => by rw [e, List.length_map]; exact len ds d hF) fun cdv A outer s H E ks B k R hr ⟨ds, d, e1, e2, hF, hk⟩ => ?_⟩
  subst e1 e2
  refine (hbody f cdv A outer s H E R ds d hr hF).imp ?_ ?_ (fun _ _ h => h) (fun _ _ h => h)
  · rintro ss O rfl
    exact fin0 hk
  · rintro k' O rfl
    exact fin0 hk
end
def tCallND (n m : Nat) (sp : Sp) (gV : List V → List V → List V) (E : L2.St → XK) (t tk : TA) : TE := fun σ H Q => t σ H fun vs H1 => tk σ H1 fun zs H2 => vs.length = n ∧ zs.length = m ∧ sp (gV vs zs) H2 Q (E σ)
section
variable {X : Cx} {CX : CXT} {k n : Nat} {f : Addr} {fd : FuncData} {ps ks : List Str} {sp : Sp} {E : L2.St → XK} {x : Str} {p pos : Pos} {e : Expr} {es : List Expr} {kws : List Keyword} {t tk : TA} {g : List Value → List Value → List Value} {gV : List V → List V → List V}
theorem pe_callND (F : FnOk X.prog X.w X.K X.mg X.base CX k f fd ps sp) (hr : Room k X.A) (hg : Gl X x) (hm : X.mg x = some (.ref f)) (hk : PySem.W.keepIn X.K (.ref f) = true) (hb : KBn X.K fd ps n ks g gV) (hx : ∀ σ, PassesAt CX X σ (E σ))
    (ha : PA X (e :: es) t) (hkw : PK X kws tk) (hall : (backToKw pos (keywordEach kws X.env)).all (·.1.isSome) = true) (hks : (backToKw pos (keywordEach kws X.env)).filterMap (·.1) = ks)
    (hdb : (x == ("__debug__" : Str)) = false) (he : starEach (e :: es) X.env = (false, eval e X.env) :: starEach es X.env)
    (hpl : ((backTo pos (starEach (e :: es) X.env)).any (·.1) || (backToKw pos (keywordEach kws X.env)).any (·.1.isNone)) = false) :
    PE X (.Call (.Name x p) (e :: es) kws pos) (tCallND n ks.length sp gV E t tk) := by
  refine ⟨fun pins s σ H Q I h => ?_⟩
  refine wpAny_Call_Name_kw (ld_glob I hg hm ?_ hdb)
  refine PySem.W.callWith_KW (h₀ := X.base) I.ok.mod.kin hk hall (thn (ha.run pos pins s σ H _ I h) fun us s1 ⟨vs, H1, I1, r, q⟩ => ?_) hpl he
  refine thn (hkw.run pos pins s1 σ H1 _ I1 q) fun ws s2 ⟨zs, H2, I2, rz, l1, l2, q2⟩ => ⟨I2.kIn, ?_⟩
  rw [hks]
  have r2 := hb.rel r rz
  refine wpAny_call (codeAny_mono (F.run X.A X.stack s2 H2 ⟨us, ks.zip ws⟩ (g us ws) (gV vs zs) Q (E σ) hr I2.env0 (hb.to s2 us ws I2.kIn (r.length.symm.trans l1) (rz.length.symm.trans l2)) r2 q2) fun r s' hq => ?_)
  cases r with
  | error e => exact hx σ pins H2 s2 e s' I2 hq
  | ok fl =>
    cases fl with
    | ret u => exact I2.after hq
    | next => exact False.elim hq
    | brk => exact False.elim hq
    | cont => exact False.elim hq
end
section
variable {X : Cx} {R : Addr → Prop} {e a : Expr} {es : List Expr} {ss : List Kd} {O O1 O2 O' : Store} {k : Kd} {ks : List Kd} {Φ : Kd → Store → Prop} {pos : Pos}
/-- f(e, ..), times filled up -/
theorem x_callT1 {n m : Nat} {ps : List Str} {F : List PyData → PyData → Prop} {x : Str} {p : Pos} {ds : List PyData} {d : PyData} (C : CalT X.prog X.w X.K X.mg X.base x n ps (PF F)) (ha : AV X R (e :: es) ss O (ds.map .dat) O1) (h : F (ds ++ [.int 1]) d) (hr : Room m X.A) (hl : n ≤ m := by decide) (hg : Gl X x := by rfl)
    (hdb : (x == ("__debug__" : Str)) = false := by decide) (he : starEach (e :: es) X.env = (false, eval e X.env) :: starEach es X.env := by exact star_ne rfl) (hpl : (backTo pos (starEach es X.env)).any (·.1) = false := by rfl) : EV X R (.Call (.Name x p) (e :: es) [] pos) ss O (.dat d) O1 := by
  obtain ⟨f, fd, g1, g2, ⟨dv, r, hb⟩, _, hF⟩ := C.ex
  refine ej_call (dk := [.dat (.int 1)]) (hF.mono hl) hr hg g1 g2 hb r (fun _ => .cons (DP.int 1) .nil) ha (fun ks' O' ⟨e1, e2⟩ => ?_) hdb he hpl
  subst e1 e2
  exact ⟨[], _, List.Perm.refl _, ds ++ [.int 1], d, by rw [List.map_append]; rfl, rfl, h, rfl, rfl⟩
theorem x_callI {n m : Nat} {ps : List Str} {i : Int} {F : List PyData → PyData → Prop} {x : Str} {p : Pos} {ds : List PyData} {d : PyData} (C : CalI X.prog X.w X.K X.mg X.base x n ps i (PF F)) (ha : AV X R (e :: es) ss O (ds.map .dat) O1) (h : F (ds ++ [.int i]) d) (hr : Room m X.A) (hl : n ≤ m := by decide) (hg : Gl X x := by rfl)
    (hdb : (x == ("__debug__" : Str)) = false := by decide) (he : starEach (e :: es) X.env = (false, eval e X.env) :: starEach es X.env := by exact star_ne rfl) (hpl : (backTo pos (starEach es X.env)).any (·.1) = false := by rfl) : EV X R (.Call (.Name x p) (e :: es) [] pos) ss O (.dat d) O1 := by
  obtain ⟨f, fd, g1, g2, ⟨dv, r, hb⟩, hF⟩ := C.ex
  refine ej_call (dk := [.dat (.int i)]) (hF.mono hl) hr hg g1 g2 hb r (fun _ => .cons (DP.int i) .nil) ha (fun ks' O' ⟨e1, e2⟩ => ?_) hdb he hpl
  subst e1 e2
  exact ⟨[], _, List.Perm.refl _, ds ++ [.int i], d, by rw [List.map_append]; rfl, rfl, h, rfl, rfl⟩
/-- f(e, .., times=t) -/
theorem x_callT2 {n m : Nat} {ps : List Str} {F : List PyData → PyData → Prop} {x kn : Str} {p kpos : Pos} {t : Expr} {ds : List PyData} {d d2 : PyData} (C : CalT X.prog X.w X.K X.mg X.base x n ps (PF F)) (ha : AV X R (e :: es) ss O (ds.map .dat) O1) (ht : EV X R t ss O1 (.dat d2) O2) (hd : ds.length = 2) (h : F (ds ++ [d2]) d) (hr : Room m X.A) (hl : n ≤ m := by decide) (hkn : kn = "times" := by rfl) (hg : Gl X x := by rfl)
    (hall : (backToKw pos (keywordEach [⟨some kn, t, kpos⟩] X.env)).all (·.1.isSome) = true := by rfl) (hks : (backToKw pos (keywordEach [⟨some kn, t, kpos⟩] X.env)).filterMap (·.1) = [kn] := by rfl)
    (hdb : (x == ("__debug__" : Str)) = false := by decide) (he : starEach (e :: es) X.env = (false, eval e X.env) :: starEach es X.env := by exact star_ne rfl)
    (hpl : ((backTo pos (starEach (e :: es) X.env)).any (·.1) || (backToKw pos (keywordEach [⟨some kn, t, kpos⟩] X.env)).any (·.1.isNone)) = false := by rfl) : EV X R (.Call (.Name x p) (e :: es) [⟨some kn, t, kpos⟩] pos) ss O (.dat d) O2 := by
  subst hkn
  obtain ⟨f, fd, g1, g2, _, hb, hF⟩ := C.ex
  intro G0 H0 G H σ S L Q q
  refine wE_of (pe_callND (hF.mono hl) hr hg g1 g2 hb (fun σ => passAt takesW σ) paW (pk_cons peW pk_nil) hall hks hdb he hpl) ?_
  refine ha G0 H0 G H σ S L _ fun G1 H1 vs ks O3 S1 e1 r1 ⟨h1, h2⟩ => ?_
  subst h1 h2
  refine ht G0 H0 G1 H1 σ S1 L _ fun G2 H2 v k O4 S2 e2 r2 ⟨h3, h4⟩ => ?_
  subst h3 h4
  refine ⟨by rw [paired_len r1, List.length_map, hd], rfl, ?_⟩
  exact call_back (Φ := isK (.dat d) O4) (B := []) (F := O4) (ks := ds.map .dat ++ [.dat d2]) S2 L (paired_app (kinds_ex e2 r1) (.cons r2 .nil)) (List.Perm.refl _) ⟨ds ++ [d2], d, by rw [List.map_append]; rfl, rfl, h, rfl, rfl⟩ (q.ex (e1.trans e2))
end
end Dl
end
section
/-! sorted of a list of data that are alike -/
namespace Dl
open PySem PySem.Spec PyProof.Rows L2
open PySem.W (AllAlike Sortable keyToks alike dataLt sortLe)
open Evl (Ex)
abbrev leD (a b : PyData) : Bool := PySem.W.sortLe (listOrd itemOrd) false keyToks a b
theorem leD_not (a b : PyData) : leD a b = !dataLt b a := rfl
section
variable {X : Cx} {pins : List (Addr × Obj)} {σ : L2.St} {H : Hp} {s : Shared}
theorem dpAllK_len {K : PySem.W.Frag} {H : Hp} : ∀ {vs : List V} {ds : List PyData}, DpAll K H vs ds → vs.length = ds.length
  | [], _, h => by cases h; rfl
  | v :: vs, _, h => by
    cases h with
    | cons _ h2 => rw [List.length_cons, List.length_cons, dpAllK_len h2]
theorem reads_each (I : Inv X pins σ H s) : ∀ {vs : List V} {us : List Value} {ds : List PyData}, DpAll X.K H vs ds → Vals vs us → PySem.W.EachIs (fun v d => ∃ as, Reads s.heap v d as) us ds
  | [], _, _, h, r => by
    cases h
    cases r
    exact .nil
  | v :: vs, _, _, h, r => by
    cases h with
    | cons h1 h2 =>
      cases r with
      | cons r1 r2 => exact .cons (Dp.reads I _ _ _ h1 r1) (reads_each I h2 r2)
theorem each_pair : ∀ {vs : List V} {us : List Value} {ds : List PyData}, Vals vs us → vs.length = ds.length → PySem.W.EachIs (fun (u : Value) (b : V × PyData) => RelV b.1 u) us (vs.zip ds)
  | [], _, [], r, _ => by cases r; exact .nil
  | v :: vs, _, d :: ds, r, h => by
    cases r with
    | cons r1 r2 => exact .cons r1 (each_pair r2 (by simpa using h))
theorem each_key {κ : PyProof.Rows.KeyKind} {k : PyData → κ.α} : ∀ {vs : List V} {us : List Value} {ds : List PyData}, PySem.W.EachIs (fun u d => κ.keyOf u = some (k d)) us ds → vs.length = ds.length → PySem.W.EachIs (fun (u : Value) (b : V × PyData) => κ.keyOf u = some (k b.2)) us (vs.zip ds)
  | [], _, [], h, _ => by cases h; exact .nil
  | v :: vs, _, d :: ds, h, l => by
    cases h with
    | cons h1 h2 => exact .cons h1 (each_key h2 (by simpa using l))
theorem each_vals : ∀ {us : List Value} {bs : List (V × PyData)}, PySem.W.EachIs (fun (u : Value) (b : V × PyData) => RelV b.1 u) us bs → Vals (bs.map (·.1)) us
  | _, [], h => by cases h; exact .nil
  | _, b :: bs, h => by
    cases h with
    | cons h1 h2 => exact .cons h1 (each_vals h2)
theorem each_mono {R : Value → PyData → Prop} {R' : Value → PyData → Prop} {us : List Value} {ds : List PyData} (h : PySem.W.EachIs R us ds) (hm : ∀ u d, d ∈ ds → R u d → R' u d) : PySem.W.EachIs R' us ds := by
  induction h with
  | nil => exact .nil
  | cons h1 _ ih => exact .cons (hm _ _ List.mem_cons_self h1) (ih fun u d hd => hm u d (List.mem_cons_of_mem _ hd))
theorem call_sortedD (hu : X.A.units + 64 < cLine) : CallR X (.builtin "sorted") (fun vs H Q => ∃ (a : Addr) (xs : List V) (ds : List PyData), vs = [V.ref a] ∧ SqL X.K H a xs ∧ DpAll X.K H xs ds ∧ AllAlike ds ∧ Sortable ds ∧ (∀ d ∈ ds, d.depth ≤ 50) ∧
    ∀ (zs : List (V × PyData)) (p : Addr), zs.Perm (xs.zip ds) → zs.map (·.2) = ds.mergeSort leD → H p = none → Q (.ref p) (upd H p (.lst (zs.map (·.1))))) := by
  intro pins s σ H vs us Q I r h
  obtain ⟨a, xs, ds, rfl, hs, hd, hal, hso, hdp, q⟩ := h
  obtain ⟨its, rv, hl, hz⟩ := I.list hs
  rw [Vals.ref1 r]
  have hlen : its.length = xs.length := rv.length.symm
  have hld : xs.length = ds.length := dpAllK_len hd
  have hr := reads_each I hd rv
  have hr2 : PySem.W.EachIs (fun v d => ∃ as, Reads (PySem.W.sortingHeap (PySem.W.copyHeap s.heap its) (s.heap.objs.size + 1) its) v d as) its ds :=
    each_mono hr fun u d _ ⟨as, h⟩ => ⟨as, Reads.keeps (fun b o e => PySem.W.sorting_copy_old e) h⟩
  have hun : X.A.in1.in1.units = X.A.units + 2 := rfl
  have S := PySem.W.SortsAt.data (prog := X.prog) (w := X.w) (A := X.A.in1.in1) (s := { s with heap := PySem.W.sortingHeap (PySem.W.copyHeap s.heap its) (s.heap.objs.size + 1) its }) hr2 hal hso (fun d hd => by have := hdp d hd; rw [hun]; omega)
  refine PySem.W.sorted_vals hl.isList S (by rw [hlen]; exact hz) ?_
  have hk : PySem.W.EachIs (fun u d => (PySem.W.dataKind (PySem.W.sortingHeap (PySem.W.copyHeap s.heap its) (s.heap.objs.size + 1) its) ds).keyOf u = some (keyToks d)) its ds :=
    each_mono hr2 fun u d hm ⟨as, h⟩ => PySem.W.dataKind_some hal hm h
  have he : PySem.W.EachIs (fun (u : Value) (b : V × PyData) => RelV b.1 u) _ ((xs.zip ds).mergeSort fun a b => leD a.2 b.2) := PySem.W.sortVals_each (κ := PySem.W.dataKind (PySem.W.sortingHeap (PySem.W.copyHeap s.heap its) (s.heap.objs.size + 1) its) ds) (rev := false) (fun b : V × PyData => keyToks b.2) (each_pair rv hld) (each_key hk hld)
  generalize hzs : ((xs.zip ds).mergeSort fun a b => leD a.2 b.2) = zs at he
  have hp : zs.Perm (xs.zip ds) := by rw [← hzs]; exact List.mergeSort_perm _ _
  have hm : zs.map (·.2) = ds.mergeSort leD := by
    rw [← hzs]
    have := PySem.W.sort_maps (r := fun a b : V × PyData => leD a.2 b.2) (s := leD) (fun b : V × PyData => b.2) (l := xs.zip ds) (fun _ _ _ _ => rfl)
    rw [List.map_snd_zip (by omega)] at this
    exact this
  have hzl : zs.length = xs.length := by rw [hp.length_eq, List.length_zip, ← hld, Nat.min_self]
  obtain ⟨n, hn⟩ := sortedAll_at s.heap its (PySem.W.sortVals (PySem.W.dataKind (PySem.W.sortingHeap (PySem.W.copyHeap s.heap its) (s.heap.objs.size + 1) its) ds) false its its).toArray
  refine ⟨.ref (s.heap.objs.size + 1), upd H (s.heap.objs.size + 1) (.lst (zs.map (·.1))), I.laid (t' := s.toks) (fun b o e => sortedAll_old e) (Nat.le_succ _) ⟨?_, _, n, each_vals he, ?_⟩, rfl, q zs _ hp hm (I.hok.fresh (Nat.le_succ _))⟩
  · rw [List.length_map, hzl]; exact hz
  · simpa using hn
end
theorem sorted_uniq {ds ds' : List PyData} (hp : ds'.Perm ds) (hs : ds'.Pairwise fun a b => dataLt a b = true) : ds.mergeSort leD = ds' := by
  have T := PySem.W.sortLe_total (listOrd itemOrd) false keyToks
  have h1 := PySem.W.sort_pairwise T ds
  have p : (ds.mergeSort leD).Perm ds' := (List.mergeSort_perm _ _).trans hp.symm
  have asym : ∀ a b : PyData, dataLt a b = true → leD b a = false := fun a b h => by rw [leD_not, h]; rfl
  clear hp
  have key : ∀ {l1 l2 : List PyData}, l1.Perm l2 → l1.Pairwise (fun a b => leD a b = true) → l2.Pairwise (fun a b => dataLt a b = true) → l1 = l2 := by
    intro l1 l2
    induction l2 generalizing l1 with
    | nil => intro p _ _; exact p.eq_nil
    | cons y l2 ih =>
      intro p g1 g2
      cases l1 with
      | nil => exact absurd p.length_eq (by simp)
      | cons x l1 =>
        have hx : x = y := by
          rcases List.mem_cons.mp (p.mem_iff.mp List.mem_cons_self) with e | hx
          · exact e
          · rcases List.mem_cons.mp (p.mem_iff.mpr List.mem_cons_self) with e | hy
            · exact e.symm
            · have a1 := List.rel_of_pairwise_cons g1 hy
              have a2 := List.rel_of_pairwise_cons g2 hx
              rw [asym _ _ a2] at a1
              cases a1
        subst hx
        rw [ih p.cons_inv (List.pairwise_cons.mp g1).2 (List.pairwise_cons.mp g2).2]
  exact key p h1 hs
section
variable {X : Cx} {R : Addr → Prop} {e : Expr} {ss : List Kd} {O O1 : Store} {p pos : Pos} {n : Nat}
theorem dpall_perm {G : Hp} {xs : List V} {ds : List PyData} (h : DPs G xs ds) {zs : List (V × PyData)} (p : zs.Perm (xs.zip ds)) : DPs G (zs.map (·.1)) (zs.map (·.2)) := by
  have h1 : ∀ z ∈ xs.zip ds, DP G z.1 z.2 := by
    clear p
    induction xs generalizing ds with
    | nil => intro z hz; simp at hz
    | cons x xs ih =>
      cases h with
      | cons r t =>
        intro z hz
        rw [List.zip_cons_cons] at hz
        rcases List.mem_cons.mp hz with rfl | hz
        · exact r
        · exact ih t z hz
  have h2 : ∀ z ∈ zs, DP G z.1 z.2 := fun z hz => h1 z (p.mem_iff.mp hz)
  clear p h h1
  induction zs with
  | nil => exact .nil
  | cons z zs ih => exact .cons (h2 z List.mem_cons_self) (ih fun y hy => h2 y (List.mem_cons_of_mem _ hy))
/-- sorted(a list of alike data) -/
theorem x_sortD {ds ds' : List PyData} {x : Str} (ha : EV X R e ss O (.dat (.list ds)) O1) (hn : nods ds = true) (hal : AllAlike ds) (hso : Sortable ds) (hdp : ∀ d ∈ ds, d.depth ≤ 50) (hs : ds.mergeSort leD = ds') (B : Bn X.mg) (hr : Room n X.A) (hx : x = "sorted" := by rfl) (hg : Gl X x := by rfl) (he : starEach [e] X.env = (false, eval e X.env) :: starEach [] X.env := by exact star_ne rfl) :
    EV X R (.Call (.Name x p) [e] [] pos) ss O (.dat (.list ds')) O1 := by
  subst hx hs
  refine EN.frz ?_
  refine ej_b1 (call_sortedD hr.units) ha (fun G0 H0 G H σ ss us S h1 Q w => ?_) B.sorted boot_sorted hg (by decide) (by decide) he
  obtain ⟨v, rfl, r⟩ := kinds1 h1
  obtain ⟨a, vs, rfl, g1, rv⟩ := dp_lst r
  refine ⟨a, vs, ds, rfl, .of (S.gh _ _ g1), dps_of hn (dpAll_ex S.gh rv), hal, hso, hdp, fun zs q pz ez hq => ?_⟩
  refine w.v (S.new hq (b := .ol (ds.mergeSort leD)) ⟨zs.map (·.1), upd_same, ?_⟩) (Ex.refl G) ⟨q, rfl, rfl⟩
  rw [← ez]
  exact dpall_perm rv pz
end
end Dl
end
section
/-! generators: for loops and ifs that hand out -/
namespace Dl
open PySem PySem.Spec PyProof.Rows L2 GenW
open Evl (Ex)
section
variable {prog : Program} {w : World} {A : Around} {R : GenEnd} {Y : Protocol} {n : Nat} {s₀ : Shared} {fs : List Frame} {s : Shared} {env : Env}
def forHead (tg : Expr) (it : Value) (env : Env) : Sem Bool := do
  standAt tg.pos
  match ← (pyNext it).onRaise (fun _ => standAt { tg.pos with line := 0 }) with
  | none => pure false
  | some v =>
    letOwnedTupleGo tg it v
    assign tg env v
    pure true
theorem forTurn_eq (tg : Expr) (it : Value) (body orelse : List Stmt) (env : Env) : forTurn tg it body orelse env = (forHead tg it env >>= fun b => if b = true then (execs body env >>= fun f => match f with
      | .next | .cont => again (.forLoop tg it body orelse env)
      | .brk => pure (.done .next)
      | .ret v => pure (.done (.ret v))) else again (.block orelse env)) := by
  unfold forTurn forHead
  simp only [bind_assoc]
  congr 1
  funext _
  congr 1
  funext r
  cases r with
  | none => simp only [pure_bind, Bool.false_eq_true, if_false]
  | some v =>
    simp only [bind_assoc, pure_bind, if_true]
    congr 1
abbrev noted (env : Env) (e : Value) : Sem PySem.Fin := (do noteFrame e env; theTreesLotGoes e : Sem Unit).wrap (fun _ => .raise e) .raise id id
theorem seg_forLoop {tg : Expr} {it : Value} {body orelse : List Stmt}
    (h : wpAny (model prog w) (A.over (.forLoop tg it body orelse env) fs) (forHead tg it env) (fun b s' =>
        if b = true then
          Seg (model prog w) A R Y n s₀ (.forLoop tg it body orelse env) ((execs body env).wrap (fun f => match f with
            | .next | .cont => .pure (.again (.forLoop tg it body orelse env))
            | .brk => .pure (.done .next)
            | .ret v => .pure (.done (.ret v))) (noted env) id id) fs s'
        else Seg (model prog w) A R Y n s₀ (.forLoop tg it body orelse env) (.pure (.again (.block orelse env))) fs s')
      (fun x s' => Seg (model prog w) A R Y n s₀ (.forLoop tg it body orelse env) (noted env x) fs s') s) :
    Seg (model prog w) A R Y n s₀ (.forLoop tg it body orelse env) ((model prog w).den (.forLoop tg it body orelse env)) fs s := by
  show Seg _ A R Y n s₀ _ ((forTurn tg it body orelse env).onRaise (fun x => do noteFrame x env; theTreesLotGoes x)) fs s
  rw [forTurn_eq, Sem.onRaise_eq_wrap, Sem.bind_eq_wrap', Sem.wrap_wrap]
  refine seg_wrap (wpAny_mono h (fun b s' hb => ?_) fun x s' hx => ?_)
  · cases b with
    | true =>
      rw [if_pos rfl] at hb
      show Seg _ A R Y n s₀ _ (Sem.wrap _ _ _ _ (if true = true then _ else _)) fs s'
      rw [if_pos rfl, Sem.bind_eq_wrap', Sem.wrap_wrap]
      rw [Sem.wrap_congr (execs body env) _ _ (K' := fun f => match f with
            | .next | .cont => .pure (.again (.forLoop tg it body orelse env))
            | .brk => .pure (.done .next)
            | .ret v => .pure (.done (.ret v))) (H' := noted env)
        (fun f => by cases f <;> rfl)
        (fun e => by first | exact Sem.bind_eq_wrap _ _ | (show (do noteFrame e env; theTreesLotGoes e : Sem Unit).bind (fun _ => .raise e) = _; rw [Sem.bind_eq_wrap]))]
      exact hb
    | false =>
      rw [if_neg Bool.false_ne_true] at hb
      show Seg _ A R Y n s₀ _ (Sem.wrap _ _ _ _ (if false = true then _ else _)) fs s'
      rw [if_neg Bool.false_ne_true]
      exact hb
  · first
      | (rw [← Sem.bind_eq_wrap] at hx; exact hx)
      | (show Seg _ A R Y n s₀ _ ((do noteFrame x env; theTreesLotGoes x : Sem Unit).bind fun _ => .raise x) fs s'; rw [Sem.bind_eq_wrap]; exact hx)
end
section
variable {X : Cx} {st : Stmt} {rest : List Stmt}
/-! ### if -/
def tGIf (c : TT) (ta tb : TGn) : TGn := fun D ys σ H => c σ H fun b H1 => if b = true then ta D ys σ H1 else tb D ys σ H1
theorem gs_if {test : Expr} {body els : List Stmt} {pos : Pos} {tc : TT} {ta tb : TGn} (hc : PT X test tc) (ha : GSs X body ta) (hb : GSs X els tb) : GS X (.If test body els pos) (tGIf tc ta tb) := by
  refine ⟨fun A S ip R n ys s₀ c fs K J gd lv s σ H D g hn k hI ht => ?_⟩
  obtain ⟨acc, cc, r, I⟩ := hI
  show Seg _ _ _ _ _ _ _ (.at pos fun _ => ((isTrue test X.env (eval test X.env) >>= fun b => if b = true then execs body X.env else execs els X.env).wrap K J gd lv)) fs s
  refine seg_at ?_
  rw [Sem.bind_eq_wrap', Sem.wrap_wrap]
  refine seg_wrap ?_
  rw [g.over]
  refine wpAny_mono (hc.run _ s σ H _ I ht) (fun b s' hb' => ?_) fun x s' hx => k.exc n s₀ x s' hx
  obtain ⟨H2, I2, q2⟩ := hb'
  cases b with
  | true =>
    rw [if_pos rfl] at q2
    show Seg _ _ _ _ _ _ _ ((if true = true then execs body X.env else execs els X.env).wrap _ _ _ _) fs s'
    rw [if_pos rfl]
    exact ha.run A S ip R n ys s₀ c fs K J gd lv s' σ H2 D g hn k ⟨acc, cc, r, I2⟩ q2
  | false =>
    rw [if_neg Bool.false_ne_true] at q2
    show Seg _ _ _ _ _ _ _ ((if false = true then execs body X.env else execs els X.env).wrap _ _ _ _) fs s'
    rw [if_neg Bool.false_ne_true]
    exact hb.run A S ip R n ys s₀ c fs K J gd lv s' σ H2 D g hn k ⟨acc, cc, r, I2⟩ q2
/-! ### for -/
def tGFor (wi : TI) (g : TG) (tb : TGn) : TGn := fun D ys σ H => wi σ H fun J H1 => ∃ W : Nat → Nat → List V → L2.St → Hp → Prop, (∃ m, W 0 m ys σ H1) ∧ ∀ i m ys σ H, W i m ys σ H →
  (J.stop i H ∧ D.nx ys σ H) ∨ (J.go i H ∧ ∃ N : List V → L2.St → Hp → Prop, (∀ ys' σ' H', N ys' σ' H' → ∃ m', m' < m ∧ W (i + 1) m' ys' σ' H') ∧ ∀ x H', J.yld i H x H' → g x σ H' fun σ2 H2 => tb { D with nx := N, ct := N, bk := D.nx } ys σ2 H2)
theorem gs_for {tg iter : Expr} {body : List Stmt} {pos : Pos} {wi : TI} {gt : TG} {tb : TGn} (hp : PassesOwn (model X.prog X.w) X.A X.env X.xe) (hc : X.calm = true) (hi : PI X tg iter wi) (hg : PG X tg gt) (hb : GSs X body tb)
    (hs : ∀ x, foldedSetIterable iter X.env x = pure x := by intro _; rfl) : GS X (.For tg iter body [] pos) (tGFor wi gt tb) := by
  refine ⟨fun A S ip R n ys s₀ c fs K J gd lv s σ H D g hn k hI ht => ?_⟩
  obtain ⟨acc, cc, r, I⟩ := hI
  have e0 : exec (.For tg iter body [] pos) X.env = (standAt pos >>= fun _ => ((eval iter X.env >>= fun x => standAt iter.pos >>= fun _ => holding [x] (pyIter x)) >>= fun it => runOwn (.forLoop tg it body [] X.env) X.env)) := by
    rw [exec_For]
    simp only [bind_assoc, hs, pure_bind]
  rw [e0]
  show Seg _ _ _ _ _ _ _ (.at pos fun _ => (((eval iter X.env >>= fun x => standAt iter.pos >>= fun _ => holding [x] (pyIter x)) >>= fun it => runOwn (.forLoop tg it body [] X.env) X.env).wrap K J gd lv)) fs s
  refine seg_at ?_
  rw [Sem.bind_eq_wrap', Sem.wrap_wrap]
  refine seg_wrap ?_
  rw [g.over]
  refine wpAny_mono (wpAny_bind (wpAny_mono (hi.run _ s σ H _ I ht) (fun v s1 h1 => wpAny_bind (wpAny_standAt (wpAny_holding h1))) fun _ _ h => h)) (fun itv s2 h2 => ?_) fun x s' hx => k.exc n s₀ x s' hx
  obtain ⟨it, fp, tn, Ji, H2, e, I2, T, st2, f2, W, ⟨m0, w0⟩, turn⟩ := h2
  subst e
  refine seg_call fun p => ?_
  have gl := fun (c' : Code) (hw : c'.weight = 0) (hu : c'.cUnits = 0) (kk : Result → Sem PySem.Fin) => gc_loop (k := kk) (c' := c') (l := lv []) (kp := []) (p := p) g hw hu
  have stat : ∀ {acc' : Array Value} {c' : Nat} {H' : Hp}, (∀ b ∈ fp, H' b = none) → ∀ b ∈ fp, FpOk X ((S, lstObj acc' c') :: ip) H' b := fun {acc' c' H'} hn b hb => by
    obtain ⟨_, y1, y2, y3, y5, y4⟩ := f2 b hb
    refine ⟨hn b hb, y1, y2, y3, y5, fun q hq => ?_⟩
    rcases List.mem_append.mp hq with hq | hq
    · exact y4 q (List.mem_append_left _ hq)
    · rcases List.mem_cons.mp hq with rfl | hq
      · exact y4 (S, lstObj acc cc) (List.mem_append_right _ List.mem_cons_self)
      · exact y4 q (List.mem_append_right _ (List.mem_cons_of_mem _ hq))
  have fpS : ∀ b ∈ fp, b ≠ S := fun b hb e => (f2 b hb).2.2.2.2.2 (S, lstObj acc cc) (List.mem_append_right _ List.mem_cons_self) e.symm
  have loop : ∀ (m i n : Nat) (ys : List V) (s₀ s3 : Shared) (σ3 : L2.St) (H3 : Hp), n + ys.length = sizeLine → W i m ys σ3 H3 → GI X S ip ys σ3 H3 s3 → tn i s3.heap → (∀ b ∈ fp, H3 b = none) →
      Seg (model X.prog X.w) A R (GY X S) n s₀ (.forLoop tg (.ref it) body [] X.env) ((model X.prog X.w).den (.forLoop tg (.ref it) body [] X.env))
        (.ret (fun r => ((match r with | .ok f => (.pure f : Sem Flow) | .error e => .raise e).onRaise (cameBack X.env)).wrap K J gd lv) none (gd false) (lv []) c p [] :: fs) s3 := by
    intro m
    induction m using Nat.strongRecOn with
    | ind m ih =>
      intro i n ys s₀ s3 σ3 H3 hn w3 hI3 st3 fr3
      have ee : ∀ (n : Nat) (s₀ : Shared) (x : Value) (s' : Shared), X.xe x s' → Seg (model X.prog X.w) A R (GY X S) n s₀ (.forLoop tg (.ref it) body [] X.env) (noted X.env x)
          (.ret (fun r => ((match r with | .ok f => (.pure f : Sem Flow) | .error e => .raise e).onRaise (cameBack X.env)).wrap K J gd lv) none (gd false) (lv []) c p [] :: fs) s' := fun n s₀ x s' hx => by
        refine seg_wrap ?_
        rw [(gl _ rfl rfl _).over]
        refine wpAny_bind (wpAny_mono (hp x s' hx) (fun _ s'' hcb => wpAny_theTreesLotGoes ?_) fun y s'' hcb => ?_)
        · exact seg_leaf (.error x) (seg_cameBack g k hcb)
        · exact seg_leaf (.error y) (seg_cameBack g k hcb)
      refine seg_forLoop ?_
      rw [(gl _ rfl rfl _).over]
      obtain ⟨acc3, c3, r3, I3⟩ := hI3
      unfold forHead
      refine wpAny_bind (wpAny_standAt (wpAny_bind (wpAny_onRaise ?_)))
      rcases turn i m ys σ3 H3 w3 with ⟨stop, qn⟩ | ⟨go, N, hN, step⟩
      · refine wpAny_mono (T.done X rfl rfl rfl hc i _ s3 σ3 H3 X.xe I3 (stat fr3) st3 stop) (fun r s4 ⟨hr, I4⟩ => ?_) fun x s' hx => wpAny_standAt (ee n s₀ x s' hx)
        subst hr
        refine wpAny_pure ?_
        rw [if_neg Bool.false_ne_true]
        refine seg_again rfl ?_
        exact seg_leaf (.ok .next) (k.ok n ys s₀ s4 .next hn ⟨σ3, H3, ⟨acc3, c3, r3, I4⟩, qn⟩)
      · refine wpAny_mono (T.item X rfl rfl rfl hc i _ s3 σ3 H3 X.xe I3 (stat fr3) st3 go) (fun r s4 ⟨u, hr, h4⟩ => ?_) fun x s' hx => wpAny_standAt (ee n s₀ x s' hx)
        subst hr
        refine wpAny_bind (wpAny_mono h4 (fun _ s5 ⟨x, H5, I5, r5, y5, st5, fr5⟩ => ?_) fun x s' hx => ee n s₀ x s' hx)
        have I5' := I5.pinned (stat fr5) (T.obj _ _ st5)
        refine wpAny_bind (wpAny_mono (hg.run _ s5 σ3 H5 x u _ I5' r5 (step x H5 y5)) (fun _ s6 ⟨σ6, H6, I6, q6⟩ => wpAny_pure ?_) fun x s' hx => ee n s₀ x s' hx)
        rw [if_pos rfl]
        have g0 := gl (.forLoop tg (.ref it) body [] X.env) rfl rfl (fun r => ((match r with | .ok f => (.pure f : Sem Flow) | .error e => .raise e).onRaise (cameBack X.env)).wrap K J gd lv)
        have g' : GC X S (ip ++ pinsAt fp s5.heap) A (.forLoop tg (.ref it) body [] X.env) (.ret (fun r => ((match r with | .ok f => (.pure f : Sem Flow) | .error e => .raise e).onRaise (cameBack X.env)).wrap K J gd lv) none (gd false) (lv []) c p [] :: fs) id :=
          ⟨g0.pn, fun q hq => (List.mem_append.mp hq).elim (g0.ip q) fun z => fpS q.1 (of_pinsAt z).1, g0.apart, g0.over, g0.split, g0.guard, g0.gd⟩
        have keepI : ∀ {acc7 : Array Value} {c7 : Nat} {σ7 : L2.St} {H7 : Hp} {s7 : Shared}, Inv X ((S, lstObj acc7 c7) :: (ip ++ pinsAt fp s5.heap)) σ7 H7 s7 → Inv X ((S, lstObj acc7 c7) :: ip) σ7 H7 s7 := fun I7 => Inv.unpinned (pins := (S, lstObj _ _) :: ip) (pl := pinsAt fp s5.heap) I7
        have pin7 : ∀ {acc7 : Array Value} {c7 : Nat} {σ7 : L2.St} {H7 : Hp} {s7 : Shared}, Inv X ((S, lstObj acc7 c7) :: (ip ++ pinsAt fp s5.heap)) σ7 H7 s7 → ∀ b o, b ∈ fp → s5.heap.get? b = some o → s7.heap.get? b = some o ∧ H7 b = none := fun I7 b o hb e => by
          have := I7.pin (b, o) (List.mem_append_right _ (List.mem_cons_of_mem _ (List.mem_append_right _ (mem_pinsAt hb e))))
          exact ⟨this.1, this.2.1⟩
        have again : ∀ {n' : Nat} {ys' : List V} {s₀' : Shared} {σ7 : L2.St} {H7 : Hp} {s7 : Shared}, n' + ys'.length = sizeLine → GI X S (ip ++ pinsAt fp s5.heap) ys' σ7 H7 s7 → N ys' σ7 H7 → Seg (model X.prog X.w) A R (GY X S) n' s₀' (.forLoop tg (.ref it) body [] X.env) ((model X.prog X.w).den (.forLoop tg (.ref it) body [] X.env))
            (.ret (fun r => ((match r with | .ok f => (.pure f : Sem Flow) | .error e => .raise e).onRaise (cameBack X.env)).wrap K J gd lv) none (gd false) (lv []) c p [] :: fs) s7 := fun {n' ys' s₀' σ7 H7 s7} hn' ⟨acc7, c7, r7, I7⟩ n7 => by
          obtain ⟨m', hm, w7⟩ := hN ys' σ7 H7 n7
          refine ih m' hm (i + 1) n' ys' s₀' s7 σ7 H7 hn' w7 ⟨acc7, c7, r7, keepI I7⟩ (T.keep _ _ _ st5 fun b hb o e => (pin7 I7 b o hb e).1) fun b hb => ?_
          obtain ⟨o, e, d⟩ := T.obj _ _ st5 b hb
          exact (pin7 I7 b o hb e).2
        refine hb.run A S (ip ++ pinsAt fp s5.heap) R n ys s₀ _ _ _ _ id id s6 σ6 H6 { D with nx := N, ct := N, bk := D.nx } g' hn ⟨fun n' ys' s₀' s7 f hn' hs => ?_, fun n' s₀' x s7 hx => ee n' s₀' x s7 hx⟩ ⟨acc3, c3, r3, I6⟩ q6
        cases f with
        | next => obtain ⟨σ7, H7, I7, n7⟩ := hs; exact seg_again rfl (again hn' I7 n7)
        | cont => obtain ⟨σ7, H7, I7, n7⟩ := hs; exact seg_again rfl (again hn' I7 n7)
        | brk => obtain ⟨σ7, H7, ⟨acc7, c7, r7, I7⟩, q7⟩ := hs; exact seg_leaf (.ok .next) (k.ok n' ys' s₀' s7 .next hn' ⟨σ7, H7, ⟨acc7, c7, r7, keepI I7⟩, q7⟩)
        | ret v => obtain ⟨x7, σ7, H7, ⟨acc7, c7, r7, I7⟩, rx, q7⟩ := hs; exact seg_leaf (.ok (.ret v)) (k.ok n' ys' s₀' s7 (.ret v) hn' ⟨x7, σ7, H7, ⟨acc7, c7, r7, keepI I7⟩, rx, q7⟩)
  exact loop m0 0 n ys s₀ s2 σ H2 hn w0 ⟨acc, cc, r, I2⟩ st2 fun b hb => (f2 b hb).1
end
end Dl
end
section
/-! generators in the data logic -/
namespace Dl
open PySem PySem.Spec PyProof.Rows L2 GenW
open Evl (Ex)
theorem execs_app (A B : List Stmt) (env : Env) : execs (A ++ B) env = (execs A env >>= fun f => match f with | .next => execs B env | f => pure f) := by
  induction A with
  | nil => rw [execs_nil, pure_bind]; rfl
  | cons a A ih =>
    rw [List.cons_append, execs_cons, execs_cons, bind_assoc]
    congr 1
    funext f
    cases f with
    | next => exact ih
    | brk => rw [pure_bind]
    | cont => rw [pure_bind]
    | ret v => rw [pure_bind]
structure WG_ (X : Cx) (sts : List Stmt) (D : GEnds) (ys : List V) (σ : L2.St) (H : Hp) : Prop where
  run : ∀ (A : Around) (S : Addr) (ip : List (Addr × Obj)) (R : GenEnd) (n : Nat) (s₀ : Shared) (c : Code) (fs : List Frame) (K : Flow → Sem PySem.Fin) (J : Value → Sem PySem.Fin) (gd : Bool → Bool) (lv : List Value → List Value) (s : Shared),
    GC X S ip A c fs gd → n + ys.length = sizeLine → GK X S ip A R c fs K J D → GI X S ip ys σ H s →
    Seg (model X.prog X.w) A R (GY X S) n s₀ c ((execs sts X.env).wrap K J gd lv) fs s
def wG (X : Cx) (sts : List Stmt) : TGn := WG_ X sts
section
variable {X : Cx} {sts rest : List Stmt} {st : Stmt}
theorem gssW : GSs X sts (wG X sts) := ⟨fun A S ip R n ys s₀ c fs K J gd lv s σ H D g hn k I h => h.run A S ip R n s₀ c fs K J gd lv s g hn k I⟩
theorem wG_of {t : TGn} (h : GSs X sts t) {D : GEnds} {ys : List V} {σ : L2.St} {H : Hp} (q : t D ys σ H) : wG X sts D ys σ H := ⟨fun A S ip R n s₀ c fs K J gd lv s g hn k I => h.run A S ip R n ys s₀ c fs K J gd lv s σ H D g hn k I q⟩
theorem gss_app {A B : List Stmt} {t u : TGn} (a : GSs X A t) (b : GSs X B u) : GSs X (A ++ B) (tGThen t u) := by
  refine ⟨fun Ar S ip R n ys s₀ c fs K J gd lv s σ H D g hn k hI ht => ?_⟩
  rw [execs_app, Sem.bind_eq_wrap', Sem.wrap_wrap]
  refine a.run Ar S ip R n ys s₀ c fs _ J gd lv s σ H { D with nx := fun ys' σ' H' => u D ys' σ' H' } g hn ⟨fun n' ys' s₀' s' f hn' hs => ?_, k.exc⟩ hI ht
  cases f with
  | next =>
    obtain ⟨σ', H', I', q⟩ := hs
    exact b.run Ar S ip R n' ys' s₀' c fs K J gd lv s' σ' H' D g hn' k I' q
  | brk => exact k.ok n' ys' s₀' s' .brk hn' hs
  | cont => exact k.ok n' ys' s₀' s' .cont hn' hs
  | ret u => exact k.ok n' ys' s₀' s' (.ret u) hn' hs
end
/-! ### judgements -/
structure GDE where
  nx : List PyData → List Kd → Store → Prop
  rt : List PyData → Kd → Store → Prop := fun _ _ _ => False
  bk : List PyData → List Kd → Store → Prop := fun _ _ _ => False
  ct : List PyData → List Kd → Store → Prop := fun _ _ _ => False
structure GSat (X : Cx) (G0 H0 G : Hp) (D : GDE) (E : GEnds) : Prop where
  nx : ∀ G' H' σ' ss' O' ys ds, Sta G0 H0 G' H' σ' ss' O' → Ex G G' → DPs G' ys ds → D.nx ds ss' O' → E.nx ys σ' H'
  rt : ∀ G' H' σ' ss' v k O' ys ds, Sta G0 H0 G' H' σ' ss' O' → Ex G G' → DPs G' ys ds → KdAt G' v k → D.rt ds k O' → E.rt ys v H'
  bk : ∀ G' H' σ' ss' O' ys ds, Sta G0 H0 G' H' σ' ss' O' → Ex G G' → DPs G' ys ds → D.bk ds ss' O' → E.bk ys σ' H'
  ct : ∀ G' H' σ' ss' O' ys ds, Sta G0 H0 G' H' σ' ss' O' → Ex G G' → DPs G' ys ds → D.ct ds ss' O' → E.ct ys σ' H'
theorem GSat.ex {X : Cx} {G0 H0 G G1 : Hp} {D : GDE} {E : GEnds} (h : GSat X G0 H0 G D E) (e : Ex G G1) : GSat X G0 H0 G1 D E :=
  ⟨fun G' H' σ' ss' O' ys ds S e' => h.nx G' H' σ' ss' O' ys ds S (e.trans e'), fun G' H' σ' ss' v k O' ys ds S e' => h.rt G' H' σ' ss' v k O' ys ds S (e.trans e'), fun G' H' σ' ss' O' ys ds S e' => h.bk G' H' σ' ss' O' ys ds S (e.trans e'), fun G' H' σ' ss' O' ys ds S e' => h.ct G' H' σ' ss' O' ys ds S (e.trans e')⟩
def YJ (X : Cx) (R : Addr → Prop) (sts : List Stmt) (ds : List PyData) (ss : List Kd) (O : Store) (D : GDE) : Prop :=
  ∀ G0 H0 G H σ ys, Sta G0 H0 G H σ ss O → Lt X R H0 → DPs G ys ds → ∀ E : GEnds, GSat X G0 H0 G D E → wG X sts E ys σ H
section
variable {X : Cx} {R : Addr → Prop} {e a b c test iter tg : Expr} {es : List Expr} {ds : List PyData} {ss : List Kd} {O O1 O2 O' : Store} {k ka kb : Kd} {ks : List Kd} {pos yp : Pos} {st : Stmt} {sts rest body els : List Stmt} {D D' : GDE} {n : Nat} {item : Nat → Kd} {need : Store → Prop} {g : TG} {ix : List Nat}
theorem dps_ex {G G' : Hp} (e : Ex G G') {ys : List V} (h : DPs G ys ds) : DPs G' ys ds := dpAll_ex e h
theorem yj_nil (h : D.nx ds ss O) : YJ X R [] ds ss O D := fun G0 H0 G H σ ys S L y E s => wG_of gss_nil (s.nx G H σ ss O ys ds S (Ex.refl G) y h)
/-- a statement that hands out nothing -/
theorem yj_plain (h : SJ X R [st] ss O { nx := fun ss' O' => YJ X R rest ds ss' O' D, rt := D.rt ds, bk := D.bk ds, ct := D.ct ds }) : YJ X R (st :: rest) ds ss O D := fun G0 H0 G H σ ys S L y E s =>
  wG_of (gss_app (A := [st]) (gss_pss pssW) gssW) (h G0 H0 G H σ S L _ ⟨fun G' H' σ' ss' O' S' e' p => p G0 H0 G' H' σ' ys S' L (dps_ex e' y) E (s.ex e'), fun G' H' σ' ss' v k O' S' e' r p => s.rt G' H' σ' ss' v k O' ys ds S' e' (dps_ex e' y) r p,
    fun G' H' σ' ss' O' S' e' p => s.bk G' H' σ' ss' O' ys ds S' e' (dps_ex e' y) p, fun G' H' σ' ss' O' S' e' p => s.ct G' H' σ' ss' O' ys ds S' e' (dps_ex e' y) p⟩)
theorem yj_yield {d : PyData} (he : EV X R e ss O (.dat d) O') (hl : ds.length < sizeLine) (h : YJ X R rest (ds ++ [d]) ss O' D) (hco : X.env.scope.isCoroutine = false := by rfl) (hi : interactive X.env = false := by rfl) : YJ X R (.Expr (.Yield (some e) yp) pos :: rest) ds ss O D := fun G0 H0 G H σ ys S L y E s =>
  wG_of (gss_cons (gs_yield peW hco hi) gssW) ⟨by rw [dps_len y]; exact hl, he G0 H0 G H σ S L _ fun G1 H1 v k O1 S1 e1 r1 ⟨h1, h2⟩ => by
    subst h1 h2
    exact h G0 H0 G1 H1 σ (ys ++ [v]) S1 L (dpAll_app (dps_ex e1 y) (.cons r1 .nil)) E (s.ex e1)⟩
theorem yj_if {b' : Bool} (hc : TV X R test ss O b' O1) (h1 : b' = true → YJ X R body ds ss O1 { D with nx := fun ds' ss' O' => YJ X R rest ds' ss' O' D }) (h2 : b' = false → YJ X R els ds ss O1 { D with nx := fun ds' ss' O' => YJ X R rest ds' ss' O' D }) : YJ X R (.If test body els pos :: rest) ds ss O D := fun G0 H0 G H σ ys S L y E s =>
  wG_of (gss_cons (gs_if ptW gssW gssW) gssW) (hc G0 H0 G H σ S L _ fun G1 H1 v O2 S1 e1 ⟨h3, h4⟩ => by
    subst h3 h4
    have sat : GSat X G0 H0 G1 { D with nx := fun ds' ss' O' => YJ X R rest ds' ss' O' D } { E with nx := fun ys' σ' H' => wG X rest E ys' σ' H' } := ⟨fun G' H' σ' ss' O' ys' ds' S' e' y' p => p G0 H0 G' H' σ' ys' S' L y' E ((s.ex e1).ex e'), (s.ex e1).rt, (s.ex e1).bk, (s.ex e1).ct⟩
    cases v with
    | true => rw [if_pos rfl]; exact h1 rfl G0 H0 G1 H1 σ ys S1 L (dps_ex e1 y) _ sat
    | false => rw [if_neg Bool.false_ne_true]; exact h2 rfl G0 H0 G1 H1 σ ys S1 L (dps_ex e1 y) _ sat)
theorem yj_for (Inv : Nat → List PyData → List Kd → Store → Prop) (hi : IJ X R tg iter ss O n item need O') (hg : PG X tg g) (hp : PassesOwn (model X.prog X.w) X.A X.env X.xe) (hc : X.calm = true) (h0 : Inv 0 ds ss O') (hn : ∀ i ds ss O, Inv i ds ss O → need O)
    (hb : ∀ i ds1 ss1 O1, i < n → Inv i ds1 ss1 O1 → GJ g ix (item i) ss1 O1 fun ss2 O2 => YJ X R body ds1 ss2 O2 { D with nx := Inv (i + 1), ct := Inv (i + 1), bk := fun ds' ss' O' => YJ X R rest ds' ss' O' D }) (hd : ∀ ds1 ss1 O1, Inv n ds1 ss1 O1 → YJ X R rest ds1 ss1 O1 D)
    (hs : ∀ x, foldedSetIterable iter X.env x = pure x := by intro _; rfl) : YJ X R (.For tg iter body [] pos :: rest) ds ss O D := fun G0 H0 G H σ ys S L y E s => by
  obtain ⟨wi, hwi, w⟩ := hi
  refine wG_of (gss_cons (gs_for hp hc hwi hg gssW hs) gssW) (w G0 H0 G H σ S L _ fun G1 H1 J S1 e1 wk => ?_)
  refine ⟨fun i m ys' σ' H' => m = n - i ∧ i ≤ n ∧ ∃ ds' ss' O' G', Sta G0 H0 G' H' σ' ss' O' ∧ Ex G1 G' ∧ DPs G' ys' ds' ∧ Inv i ds' ss' O', ⟨n, by simp, Nat.zero_le _, ds, ss, O', G1, S1, Ex.refl _, dps_ex e1 y, h0⟩, ?_⟩
  rintro i m ys' σ' H' ⟨rfl, hi, ds', ss', O2, G', S', e', y', iv⟩
  by_cases hlt : i < n
  · refine .inr ⟨wk.go i G0 H0 G' H' σ' ss' O2 S' e' (hn _ _ _ _ iv) hlt, fun ys2 σ2 H2 => ∃ ds2 ss2 O3 G2, Sta G0 H0 G2 H2 σ2 ss2 O3 ∧ Ex G1 G2 ∧ DPs G2 ys2 ds2 ∧ Inv (i + 1) ds2 ss2 O3, fun ys2 σ2 H2 ⟨ds2, ss2, O3, G2, S2, e2, y2, iv2⟩ => ⟨n - (i + 1), by omega, rfl, by omega, ds2, ss2, O3, G2, S2, e2, y2, iv2⟩, fun x H2 y2 => ?_⟩
    obtain ⟨G2, S2, e2, dx⟩ := wk.yld i G0 H0 G' H' σ' ss' O2 x H2 S' e' (hn _ _ _ _ iv) hlt y2
    refine hb i ds' ss' O2 hlt iv G0 H0 G2 H2 σ' x S2 dx _ fun G3 H3 σ3 ss3 O3 S3 e3 _ _ sj => ?_
    refine sj G0 H0 G3 H3 σ3 ys' S3 L (dps_ex (e2.trans e3) y') _ ⟨fun G4 H4 σ4 ss4 O4 ys4 ds4 S4 e4 y4 p => ⟨ds4, ss4, O4, G4, S4, (((e'.trans e2).trans e3).trans e4), y4, p⟩, fun G4 H4 σ4 ss4 v k O4 ys4 ds4 S4 e4 y4 r p => s.rt G4 H4 σ4 ss4 v k O4 ys4 ds4 S4 ((((e1.trans e').trans e2).trans e3).trans e4) y4 r p,
      fun G4 H4 σ4 ss4 O4 ys4 ds4 S4 e4 y4 p => p G0 H0 G4 H4 σ4 ys4 S4 L y4 E (s.ex ((((e1.trans e').trans e2).trans e3).trans e4)), fun G4 H4 σ4 ss4 O4 ys4 ds4 S4 e4 y4 p => ⟨ds4, ss4, O4, G4, S4, (((e'.trans e2).trans e3).trans e4), y4, p⟩⟩
  · have e : i = n := by omega
    subst e
    exact .inl ⟨wk.stop G0 H0 G' H' σ' ss' O2 S' e' (hn _ _ _ _ iv), hd _ _ _ iv G0 H0 G' H' σ' ys' S' L y' E (s.ex (e1.trans e'))⟩
theorem yj_while (Inv : Nat → List PyData → List Kd → Store → Prop) (m0 : Nat) (hp : PassesOwn (model X.prog X.w) X.A X.env X.xe) (h0 : Inv m0 ds ss O)
    (hb : ∀ m ds1 ss1 O1, Inv m ds1 ss1 O1 → ∃ b' O2, TV X R c ss1 O1 b' O2 ∧ (b' = true → ∃ N : List PyData → List Kd → Store → Prop, (∀ ds2 ss2 O3, N ds2 ss2 O3 → ∃ m', m' < m ∧ Inv m' ds2 ss2 O3) ∧ YJ X R body ds1 ss1 O2 { D with nx := N, ct := N, bk := fun ds' ss' O' => YJ X R rest ds' ss' O' D }) ∧ (b' = false → YJ X R rest ds1 ss1 O2 D)) : YJ X R (.While c body [] pos :: rest) ds ss O D := fun G0 H0 G H σ ys S L y E s => by
  refine wG_of (gss_cons (gs_while hp ptW gssW) gssW) ⟨fun m ys' σ' H' => ∃ ds' ss' O' G', Sta G0 H0 G' H' σ' ss' O' ∧ Ex G G' ∧ DPs G' ys' ds' ∧ Inv m ds' ss' O', ⟨m0, ds, ss, O, G, S, Ex.refl _, y, h0⟩, ?_⟩
  rintro m ys' σ' H' ⟨ds', ss', O1, G', S', e', y', iv⟩
  obtain ⟨b', O2, tc, h1, h2⟩ := hb m ds' ss' O1 iv
  refine tc G0 H0 G' H' σ' S' L _ fun G1 H1 v O3 S1 e1 ⟨h3, h4⟩ => ?_
  subst h3 h4
  cases v with
  | true =>
    obtain ⟨N, hN, sj⟩ := h1 rfl
    rw [if_pos rfl]
    refine ⟨fun ys2 σ2 H2 => ∃ ds2 ss2 O3 G2, Sta G0 H0 G2 H2 σ2 ss2 O3 ∧ Ex G G2 ∧ DPs G2 ys2 ds2 ∧ N ds2 ss2 O3, fun ys2 σ2 H2 ⟨ds2, ss2, O3, G2, S2, e2, y2, n2⟩ => ?_, ?_⟩
    · obtain ⟨m', hm, iv'⟩ := hN _ _ _ n2
      exact ⟨m', hm, ds2, ss2, O3, G2, S2, e2, y2, iv'⟩
    · exact sj G0 H0 G1 H1 σ' ys' S1 L (dps_ex e1 y') _ ⟨fun G4 H4 σ4 ss4 O4 ys4 ds4 S4 e4 y4 p => ⟨ds4, ss4, O4, G4, S4, (e'.trans e1).trans e4, y4, p⟩, fun G4 H4 σ4 ss4 v k O4 ys4 ds4 S4 e4 y4 r p => s.rt G4 H4 σ4 ss4 v k O4 ys4 ds4 S4 ((e'.trans e1).trans e4) y4 r p,
        fun G4 H4 σ4 ss4 O4 ys4 ds4 S4 e4 y4 p => p G0 H0 G4 H4 σ4 ys4 S4 L y4 E (s.ex ((e'.trans e1).trans e4)), fun G4 H4 σ4 ss4 O4 ys4 ds4 S4 e4 y4 p => ⟨ds4, ss4, O4, G4, S4, (e'.trans e1).trans e4, y4, p⟩⟩
  | false =>
    rw [if_neg Bool.false_ne_true]
    exact h2 rfl G0 H0 G1 H1 σ' ys' S1 L (dps_ex e1 y') E (s.ex (e'.trans e1))
end
end Dl
end
section
/-! generator defs of data -/
namespace Dl
open PySem PySem.Spec PyProof.Rows L2 GenW
open Evl (Ex)
theorem Sta.after {G0 H0 G H G' H' : Hp} {σ : L2.St} {ss : List Kd} {O : Store} (S : Sta G0 H0 G H σ ss O) (S' : Sta G H G' H' [] [] []) : Sta G0 H0 G' H' σ ss O := by
  refine ⟨S.g0.trans S'.g0, S.h0.trans S'.h0, S'.gh, fun a o e => ?_, slots_ex S'.g0 S.sl, S.nd, fun q hq => ?_⟩
  · rcases S'.fr a o e with z | z
    · exact S.fr a o z
    · refine .inr ?_
      cases y : H0 a with
      | none => rfl
      | some u =>
        have := S.h0 a u y
        rw [z] at this; cases this
  · obtain ⟨a, b, c⟩ := S.ob q hq
    obtain ⟨u, hu⟩ := ob_some a
    have e : H' q.1 = H q.1 := by
      rw [hu]
      exact S'.h0 _ _ hu
    refine ⟨ob_ex S'.g0 e a, ?_, c⟩
    cases e : G' q.1 with
    | none => rfl
    | some o =>
      rcases S'.fr _ _ e with z | z
      · rw [b] at z; cases z
      · rw [hu] at z; cases z
/-- the promise of a generator def of data: what it hands out -/
def toSpG (F : List PyData → List PyData → Prop) : SpG := fun vs H Q _ => ∃ (G : Hp) (ds os : List PyData), Kinds G vs (ds.map .dat) ∧ Ex G H ∧ F ds os ∧ ∀ G' H' ys, Sta G H G' H' [] [] [] → DPs G' ys os → Q ys H'
structure CalG (P : Program) (w : World) (K : PySem.W.Frag) (mg : Str → Option Value) (base : Heap) (x : Str) (n : Nat) (ps : List Str) (F : List PyData → List PyData → Prop) : Prop where
  ex : ∃ f fd, mg x = some (.ref f) ∧ PySem.W.keepIn K (.ref f) = true ∧ Binds K fd ps [] ∧ GFn P w K mg base n f fd ps (toSpG F)
abbrev GDF (os : List PyData) : GDE := { nx := fun ds _ _ => ds = os, rt := fun ds k _ => ds = os ∧ k = .dat .none }
section
variable {P : Program} {w : World} {K : PySem.W.Frag} {mg : Str → Option Value} {base : Heap}
theorem calG_pf {x : Str} {st : Stmt} {N ps : List Str} {n : Nat} {F : List PyData → List PyData → Prop} (Df : Dfn K mg x st) (S : GScope N ps (defScope st))
    (hb : ∀ (kV doc pm : Value) (an : Option Addr) (cdv ct : Value) (us : List Value), us.length = ps.length → bindArgs (PySem.W.fnOf x x (defArgs st) (defBody st) (defScope st) .none kV doc pm an cdv ct) ⟨us, []⟩ = pure (ps.zip us)) (len : ∀ ds os, F ds os → ds.length = ps.length)
    (hbody : ∀ (f : Addr) (cdv : Value) (A : Around) (outer : List Env) (s : Shared) (H : Hp) (E : XK) (pn : List (Addr × Obj)) (ds os : List PyData), Room n (A.deeper (envOfC x (defScope st) s.heap.objs.size f cdv)) → F ds os →
      YJ (gcxOf P w K mg base N x (defScope st) f cdv A outer s H E pn) No (defBody st) [] (startK N (ds.map .dat)) [] (GDF os)) : CalG P w K mg base x (n + 1) ps F := by
  obtain ⟨f, fd, Fd, g⟩ := Df.ex
  refine ⟨f, fd, g, Fd.kp, Fd.bindsN hb, ?_⟩
  obtain ⟨oc, od, dV, kV, doc, pm, an, cdv, ct, osl, rfl, lk, hcd, _, _⟩ := Fd.ex
  refine gfn_of lk hcd S (fun vs H Q E ⟨G, ds, os, hk, _, hF, _⟩ => ?_) fun A outer s H vs Q E pn hr ⟨G, ds, os, hk, hg, hF, hq⟩ => ⟨wG _ _, gssW, ?_⟩
  · rw [paired_len hk, List.length_map]
    exact len ds os hF
  · have ok : Sta G H G H (L2.start N vs) (startK N (ds.map .dat)) [] := by
      refine ⟨Ex.refl G, Ex.refl H, hg, fun a o e => .inl e, ?_, List.nodup_nil, fun q hq => nomatch hq⟩
      unfold L2.start startK
      rw [paired_len hk]
      exact paired_app (slots_start hk) (slots_und _)
    have less : ∀ {G' H' σ' ss' O'}, Sta G H G' H' σ' ss' O' → Sta G H G' H' [] [] [] := fun S' => (S'.less (O' := []) (fun _ z => nomatch z) List.nodup_nil).slots .nil
    refine hbody f cdv A outer s H E pn ds os hr hF G H G H _ [] ok Lt.no .nil _ ⟨fun G' H' σ' ss' O' ys ds' S' e' y p => ?_, fun G' H' σ' ss' v k' O' ys ds' S' e' y r p => ?_, fun _ _ _ _ _ _ _ _ _ _ p => p.elim, fun _ _ _ _ _ _ _ _ _ _ p => p.elim⟩
    · have p : ds' = os := p
      subst p
      exact hq G' H' ys (less S') y
    · obtain ⟨p, p2⟩ := p
      subst p p2
      cases r
      exact ⟨rfl, hq G' H' ys (less S') y⟩
end
section
variable {X : Cx} {R : Addr → Prop} {e : Expr} {es : List Expr} {ss : List Kd} {O O1 : Store} {pos pos2 p p2 : Pos} {ds os : List PyData}
theorem en_listG {n m : Nat} {ps : List Str} {F : List PyData → List PyData → Prop} {x nm : Str} (C : CalG X.prog X.w X.K X.mg X.base x n ps F) (ha : AV X R (e :: es) ss O (ds.map .dat) O1) (h : F ds os) (hr : Room m X.A) (hmL : X.mg "list" = none) (hnm : nm = "list" := by rfl) (hl : n + 3 ≤ m := by decide) (hg : Gl X x := by rfl) (hgL : Gl X nm := by rfl)
    (hdb : (x == ("__debug__" : Str)) = false := by decide) (he : starEach (e :: es) X.env = (false, eval e X.env) :: starEach es X.env := by exact star_ne rfl) (hpl : (backTo pos2 (starEach es X.env)).any (·.1) = false := by rfl)
    (he2 : starEach [.Call (.Name x p2) (e :: es) [] pos2] X.env = (false, eval (.Call (.Name x p2) (e :: es) [] pos2) X.env) :: starEach [] X.env := by exact star_ne rfl) : EN X R (.Call (.Name nm p) [.Call (.Name x p2) (e :: es) [] pos2] [] pos) ss O (.ol os) O1 := by
  subst hnm
  intro G0 H0 G H σ S L Q q
  obtain ⟨f, fd, g1, g2, hb, hF⟩ := C.ex
  refine wE_of (pe_listG (E := fun _ _ _ => False) (pgen_call hF (hr.mono (by omega)) hg g1 g2 hb .nil paW hdb he hpl) (fun _ _ _ _ _ _ _ hc => ?_) (fun _ _ _ z => z.elim) (hr.mono hl) hgL hmL rfl (by decide) (by decide) he2) ?_
  · obtain ⟨a, B, H', cls, d, z1, fl, z2, ub, z3, z4, z5, z6⟩ := hc
    exact z6.elim
  refine ha G0 H0 G H σ S L _ fun G1 H1 vs ks O2 S1 e1 r1 ⟨h1, h2⟩ => ?_
  subst h1 h2
  refine ⟨G1, ds, os, by rw [List.append_nil]; exact r1, S1.gh, h, fun G' H' ys S' y p hp => ?_⟩
  have S2 := S1.after S'
  exact q G' _ _ (.val (.ref p)) _ (S2.new hp (b := .ol os) ⟨ys, upd_same, y⟩) (e1.trans S'.g0) rfl ⟨p, rfl, rfl⟩
end
section
variable {X : Cx} {R : Addr → Prop} {e iter : Expr} {ds : List PyData} {ss : List Kd} {O O' : Store} {pos px : Pos} {rest body : List Stmt} {D : GDE} {x : Str} {α : Type}
/-- for x in iter, in a generator: by what has been walked -/
theorem yj_forL (v : Nat) {xs : List α} {inj : α → Kd} (Inv : List α → List PyData → List Kd → Store → Prop) (hN : X.N.Nodup) (hi : IL X R (.Name x px) iter ss O xs inj O') (hp : PassesOwn (model X.prog X.w) X.A X.env X.xe) (h0 : Inv [] ds ss O')
    (hb : ∀ pre z post, xs = pre ++ z :: post → ∀ ds1 ss1 O1, Inv pre ds1 ss1 O1 → YJ X R body ds1 (ss1.set v (inj z)) O1 { D with nx := Inv (pre ++ [z]), ct := Inv (pre ++ [z]), bk := fun ds' ss' O' => YJ X R rest ds' ss' O' D }) (hd : ∀ ds1 ss1 O1, Inv xs ds1 ss1 O1 → YJ X R rest ds1 ss1 O1 D)
    (hx : X.N[v]? = some x := by rfl) (hl : Loc X.env.scope x := by first | exact Or.inl rfl | exact Or.inr rfl) (hfx : X.fn x = true ∨ X.env.scope.names.lookup x = some .local := by first | exact .inl rfl | exact .inr rfl) (hc : X.calm = true := by rfl)
    (hs : ∀ x, foldedSetIterable iter X.env x = pure x := by intro _; rfl) : YJ X R (.For (.Name x px) iter body [] pos :: rest) ds ss O D := by
  refine yj_for (ix := [v]) (fun i ds ss O => Inv (xs.take i) ds ss O) hi (pg_name (i := v) hN hx hl (hf := hfx)) hp hc (by rw [List.take_zero]; exact h0) (fun _ _ _ _ _ => trivial) (fun i ds1 ss1 O1 hlt iv => gj_name v ?_) (fun ds1 ss1 O1 iv => hd ds1 ss1 O1 (by rwa [List.take_length] at iv)) hs
  have e1 : xs = xs.take i ++ xs[i] :: xs.drop (i + 1) := by rw [← List.drop_eq_getElem_cons hlt, List.take_append_drop]
  have e2 : xs.take (i + 1) = xs.take i ++ [xs[i]] := List.take_succ_eq_append_getElem hlt
  rw [itemL_at hlt]
  have h := hb _ _ _ e1 ds1 ss1 O1 iv
  rw [← e2] at h
  exact h
end
end Dl
end
section
namespace Dl
open PySem PySem.Spec PyProof.Rows L2
open Evl (Ex)
theorem kinds3 {G : Hp} {vs : List V} {k l m : Kd} (h : Kinds G vs [k, l, m]) : ∃ v w u, vs = [v, w, u] ∧ KdAt G v k ∧ KdAt G w l ∧ KdAt G u m := by
  cases h with | cons h1 h2 => cases h2 with | cons h2 h3 => cases h3 with | cons h3 h4 => cases h4; exact ⟨_, _, _, rfl, h1, h2, h3⟩
theorem eqk_self {d : PyData} (h : pl d = true) : EqK d d true := .gen h h (SeqAt.eqv_refl d (SeqAt.canLay_of_shaped (pl_sh h)))
section
variable {X : Cx} {R : Addr → Prop} {a b c : Expr} {ss : List Kd} {O O' : Store} {pos : Pos} {rest : List Stmt} {D : DE}
/-- a, b, c = e, f, g -/
theorem sj_par3 (i j l : Nat) {x y z : Str} {px py pz pt : Pos} {kt k2 : Nat} {pt2 : Pos} (ha : AJ X R [a, b, c] ss O fun ks O' => ∃ k1 k2 k3, ks = [k1, k2, k3] ∧ SJ X R rest (((ss.set i k1).set j k2).set l k3) O' D) (hN : X.N.Nodup) (hc : X.calm = true := by rfl) (hi : X.N[i]? = some x := by rfl) (hj : X.N[j]? = some y := by rfl) (hl : X.N[l]? = some z := by rfl) (hij : i ≠ j := by decide) (hil : i ≠ l := by decide) (hjl : j ≠ l := by decide)
    (hx : X.env.scope.names.lookup x = some .local := by rfl) (hy : X.env.scope.names.lookup y = some .local := by rfl) (hz : X.env.scope.names.lookup z = some .local := by rfl) (hw : swappedStores [.Tuple [.Name x px, .Name y py, .Name z pz] kt pt] (.Tuple [a, b, c] k2 pt2) X.env = pure (some [x, y, z]) := by rfl)
    (hs : swapsWithSole [.Tuple [.Name x px, .Name y py, .Name z pz] kt pt] (.Tuple [a, b, c] k2 pt2) pos.line X.env = pure false := by rfl) : SJ X R (.Assign [.Tuple [.Name x px, .Name y py, .Name z pz] kt pt] (.Tuple [a, b, c] k2 pt2) pos :: rest) ss O D := sj_cons fun G0 H0 G H σ S L E s =>
  wS_of (ps_par3 hc hN hi hj hl hij hil hjl hx hy hz paW hw hs) (ha G0 H0 G H σ S L _ fun G1 H1 vs ks O1 S1 e1 r1 ⟨k1, k2, k3, e2, h⟩ => by
    subst e2
    obtain ⟨v, w, u, rfl, h1, h2, h3⟩ := kinds3 r1
    exact ⟨v, w, u, rfl, s.nx G1 H1 _ _ O1 (((S1.set i h1).set j h2).set l h3) e1 h⟩)
theorem t_inSign {c : Nat} {t : List Nat} {e f : Expr} {O1 O2 : Store} (ha : EV X R e ss O (.dat (dS [c])) O1) (hb : EV X R f ss O1 (.dat (dS t)) O2) (hm : behindInMarks .In f = false := by rfl) : TV X R (.Compare e [.In] [f] pos) ss O (decide (c ∈ t)) O2 :=
  tv_cmp op_in_sign ha hb (fun G0 H0 G H σ ss x y S h1 h2 Q q => ⟨c, sL t, dp_str h1, dp_str h2, q.d S (Ex.refl G) (DP.bl _) ⟨by simp, rfl⟩⟩) hm
theorem t_notInSign {c : Nat} {t : List Nat} {e f : Expr} {O1 O2 : Store} (ha : EV X R e ss O (.dat (dS [c])) O1) (hb : EV X R f ss O1 (.dat (dS t)) O2) (hm : behindInMarks .NotIn f = false := by rfl) : TV X R (.Compare e [.NotIn] [f] pos) ss O (!decide (c ∈ t)) O2 :=
  tv_cmp op_notIn_sign ha hb (fun G0 H0 G H σ ss x y S h1 h2 Q q => ⟨c, sL t, dp_str h1, dp_str h2, q.d S (Ex.refl G) (DP.bl _) ⟨by simp, rfl⟩⟩) hm
end
end Dl
end
section
/-! pop, in, max, index, list(dict), sorted(dict) -/
namespace Dl
open PySem PySem.Spec PyProof.Rows L2
open Evl (Ex)
theorem kv_keys {G : Hp} : ∀ {ws : List (Key × V)} {kvs : List (Str × PyData)}, KvD G ws kvs → ws.map (·.1) = (kvs.map (·.1)).map Sum.inr
  | _, _, .nil => rfl
  | _, _, .cons h t => by rw [List.map_cons, List.map_cons, List.map_cons, kv_keys t, h.1]
section
variable {X : Cx} {R : Addr → Prop} {e a b c o f : Expr} {es : List Expr} {ss : List Kd} {O O1 O2 O3 O' : Store} {k ka kb : Kd} {ks : List Kd} {Φ Ψ : Kd → Store → Prop} {pos : Pos} {n : Nat}
/-- xs.pop() of an owned list -/
theorem ev_pop (j : Nat) {p : Addr} {ds : List PyData} {d : PyData} {apos : Pos} (ha : EV X R a ss O (.val (.ref p)) O1) (hj : O1[j]? = some (p, .ol (ds ++ [d])))
    (hbase : attributeBase a "pop" X.env (eval a X.env) = eval a X.env := by rfl) (hline : (apos.endLine == pos.line) = true := by rfl) : EV X R (.Call (.Attribute a "pop" apos) [] [] pos) ss O (.dat d) (O1.set j (p, .ol ds)) := fun G0 H0 G H σ S L Q q =>
  wE_of (pe_bm0 PySem.F.plainAttrs_list PySem.F.slot_list_pop PySem.F.type_list_pop mt_pop peW hbase hline) (ha G0 H0 G H σ S L _ fun G1 H1 v k1 O3 S1 e1 r1 ⟨h1, h2⟩ => by
    subst h1 h2
    have : v = .ref p := r1
    subst this
    obtain ⟨⟨vs, hv, rv⟩, _, _⟩ := S1.ob _ (List.mem_of_getElem? hj)
    refine ⟨.inl ⟨rfl, vs, .of hv⟩, ?_⟩
    have hl := dps_len rv
    rw [List.length_append, List.length_singleton] at hl
    obtain ⟨y, hy, ry⟩ := dpAll_get rv (i := ds.length) (d := d) (by rw [List.getElem?_append_right (Nat.le_refl _), Nat.sub_self]; rfl)
    have e1' : vs.length - 1 = ds.length := by omega
    refine ⟨p, vs, y, rfl, rfl, hv, by rw [e1']; exact hy, ?_⟩
    have rd : DPs G1 vs.dropLast ds := by
      have := dps_take (ds.length) rv
      rw [List.take_left] at this
      rw [List.dropLast_eq_take, e1']
      exact this
    exact q.d (sta_olput S1 hj rd) e1 ry ⟨rfl, rfl⟩)
/-- x in d, an owned dict -/
theorem ev_inO (j : Nat) {p : Addr} {kvs : List (Str × PyData)} {s : Str} (ha : EV X R a ss O (.dat (.str s)) O1) (hb : EV X R b ss O1 (.val (.ref p)) O2) (hj : O2[j]? = some (p, .od kvs)) (hr : Room n X.A) (hm : behindInMarks .In b = false := by rfl) : EV X R (.Compare a [.In] [b] pos) ss O (.dat (.bool (getT kvs s).isSome)) O2 := fun G0 H0 G H σ S L Q q =>
  wE_of (pe_cmp (pc_din (by have := hr.units; omega) peW peW) hm) (ha G0 H0 G H σ S L _ fun G1 H1 v k1 O3 S1 e1 r1 ⟨h1, h2⟩ => by
    subst h1 h2
    refine hb G0 H0 G1 H1 σ S1 L _ fun G2 H2 v2 k2 O4 S2 e2 r2 ⟨h3, h4⟩ => ?_
    subst h3 h4
    have : v2 = .ref p := r2
    subst this
    cases dp_str r1
    obtain ⟨⟨ws, hw, kv⟩, _, _⟩ := S2.ob _ (List.mem_of_getElem? hj)
    refine ⟨p, valV ws (.inr s), rfl, .inl ⟨ws, .inr s, .inl hw, rfl, rfl⟩, ?_⟩
    rw [kv_isSome kv]
    exact q.d S2 (e1.trans e2) (DP.bl _) ⟨rfl, rfl⟩)
theorem t_inO (j : Nat) {p : Addr} {kvs : List (Str × PyData)} {s : Str} (ha : EV X R a ss O (.dat (.str s)) O1) (hb : EV X R b ss O1 (.val (.ref p)) O2) (hj : O2[j]? = some (p, .od kvs)) (hr : Room n X.A) (hm : behindInMarks .In b = false := by rfl) : TV X R (.Compare a [.In] [b] pos) ss O (getT kvs s).isSome O2 := fun G0 H0 G H σ S L Q q =>
  wT_of (pt_cmp (pc_din (by have := hr.units; omega) peW peW) hm) (ha G0 H0 G H σ S L _ fun G1 H1 v k1 O3 S1 e1 r1 ⟨h1, h2⟩ => by
    subst h1 h2
    refine hb G0 H0 G1 H1 σ S1 L _ fun G2 H2 v2 k2 O4 S2 e2 r2 ⟨h3, h4⟩ => ?_
    subst h3 h4
    have : v2 = .ref p := r2
    subst this
    cases dp_str r1
    obtain ⟨⟨ws, hw, kv⟩, _, _⟩ := S2.ob _ (List.mem_of_getElem? hj)
    refine ⟨p, valV ws (.inr s), rfl, .inl ⟨ws, .inr s, .inl hw, rfl, rfl⟩, ?_⟩
    rw [kv_isSome kv]
    exact ⟨_, rfl, q G2 H2 _ _ S2 (e1.trans e2) ⟨rfl, rfl⟩⟩)
theorem t_notInO (j : Nat) {p : Addr} {kvs : List (Str × PyData)} {s : Str} (ha : EV X R a ss O (.dat (.str s)) O1) (hb : EV X R b ss O1 (.val (.ref p)) O2) (hj : O2[j]? = some (p, .od kvs)) (hr : Room n X.A) (hm : behindInMarks .NotIn b = false := by rfl) : TV X R (.Compare a [.NotIn] [b] pos) ss O (!(getT kvs s).isSome) O2 := fun G0 H0 G H σ S L Q q =>
  wT_of (pt_cmp (pc_dnotin (by have := hr.units; omega) peW peW) hm) (ha G0 H0 G H σ S L _ fun G1 H1 v k1 O3 S1 e1 r1 ⟨h1, h2⟩ => by
    subst h1 h2
    refine hb G0 H0 G1 H1 σ S1 L _ fun G2 H2 v2 k2 O4 S2 e2 r2 ⟨h3, h4⟩ => ?_
    subst h3 h4
    have : v2 = .ref p := r2
    subst this
    cases dp_str r1
    obtain ⟨⟨ws, hw, kv⟩, _, _⟩ := S2.ob _ (List.mem_of_getElem? hj)
    refine ⟨p, valV ws (.inr s), rfl, .inl ⟨ws, .inr s, .inl hw, rfl, rfl⟩, ?_⟩
    rw [kv_isSome kv]
    exact ⟨_, rfl, q G2 H2 _ _ S2 (e1.trans e2) ⟨rfl, rfl⟩⟩)
/-- x in d, a dict that is plain data -/
theorem t_inF {kvs : List (Str × PyData)} {s : Str} (ha : EV X R a ss O (.dat (.str s)) O1) (hb : EV X R b ss O1 (.dat (dK kvs)) O2) (hr : Room n X.A) (hm : behindInMarks .In b = false := by rfl) : TV X R (.Compare a [.In] [b] pos) ss O (getT kvs s).isSome O2 := fun G0 H0 G H σ S L Q q =>
  wT_of (pt_cmp (pc_din (by have := hr.units; omega) peW peW) hm) (ha G0 H0 G H σ S L _ fun G1 H1 v k1 O3 S1 e1 r1 ⟨h1, h2⟩ => by
    subst h1 h2
    refine hb G0 H0 G1 H1 σ S1 L _ fun G2 H2 v2 k2 O4 S2 e2 r2 ⟨h3, h4⟩ => ?_
    subst h3 h4
    cases dp_str r1
    obtain ⟨p, o, ws, rfl, hw, kv⟩ := dp_dict r2
    refine ⟨p, valV ws (.inr s), rfl, .inl ⟨ws, .inr s, .inr ⟨o, S2.gh _ _ hw⟩, rfl, rfl⟩, ?_⟩
    rw [kv_isSome kv]
    exact ⟨_, rfl, q G2 H2 _ _ S2 (e1.trans e2) ⟨rfl, rfl⟩⟩)
/-- x in a list, by == -/
theorem ev_inL {d : PyData} {ds : List PyData} {t : Bool} (ha : EV X R a ss O (.dat d) O1) (hb : EV X R b ss O1 (.dat (.list ds)) O2) (s1 : pl d = true) (s2 : pl (.list ds) = true) (h : (ds.any fun z => PyData.eqv z d) = t) (hr : Room n X.A) (hm : behindInMarks .In b = false := by rfl) : EV X R (.Compare a [.In] [b] pos) ss O (.dat (.bool t)) O2 := by
  subst h
  exact ev_cmp (op_inD (by have := hr.un; omega)) ha hb (fun G0 H0 G H σ ss x y S h1 h2 Q q => ⟨d, ds, dp_of (pl_nod s1) (dp_ex S.gh h1), dp_of (pl_nod s2) (dp_ex S.gh h2), pl_sh s1, pl_sh s2, q.d S (Ex.refl G) (DP.bl _) ⟨rfl, rfl⟩⟩) hm
theorem t_inL {d : PyData} {ds : List PyData} {t : Bool} (ha : EV X R a ss O (.dat d) O1) (hb : EV X R b ss O1 (.dat (.list ds)) O2) (s1 : pl d = true) (s2 : pl (.list ds) = true) (h : (ds.any fun z => PyData.eqv z d) = t) (hr : Room n X.A) (hm : behindInMarks .In b = false := by rfl) : TV X R (.Compare a [.In] [b] pos) ss O t O2 := by
  subst h
  exact tv_cmp (op_inD (by have := hr.un; omega)) ha hb (fun G0 H0 G H σ ss x y S h1 h2 Q q => ⟨d, ds, dp_of (pl_nod s1) (dp_ex S.gh h1), dp_of (pl_nod s2) (dp_ex S.gh h2), pl_sh s1, pl_sh s2, q.d S (Ex.refl G) (DP.bl _) ⟨rfl, rfl⟩⟩) hm
theorem t_notInL {d : PyData} {ds : List PyData} {t : Bool} (ha : EV X R a ss O (.dat d) O1) (hb : EV X R b ss O1 (.dat (.list ds)) O2) (s1 : pl d = true) (s2 : pl (.list ds) = true) (h : (ds.any fun z => PyData.eqv z d) = t) (hr : Room n X.A) (hm : behindInMarks .NotIn b = false := by rfl) : TV X R (.Compare a [.NotIn] [b] pos) ss O (!t) O2 := by
  subst h
  exact tv_cmp (op_notInD (by have := hr.un; omega)) ha hb (fun G0 H0 G H σ ss x y S h1 h2 Q q => ⟨d, ds, dp_of (pl_nod s1) (dp_ex S.gh h1), dp_of (pl_nod s2) (dp_ex S.gh h2), pl_sh s1, pl_sh s2, q.d S (Ex.refl G) (DP.bl _) ⟨rfl, rfl⟩⟩) hm
theorem any_txs (c : List Nat) (xs : List (List Nat)) : ((xs.map dS).any fun z => PyData.eqv z (dS c)) = decide (c ∈ xs) := by
  rw [List.any_map, Bool.eq_iff_iff, List.any_eq_true, decide_eq_true_eq]
  constructor
  · rintro ⟨x, hx, h⟩
    have : sL x = sL c := by simpa [PyData.eqv] using h
    rw [← sL_inj this]
    exact hx
  · intro h
    exact ⟨c, h, by simp [PyData.eqv]⟩
/-- max of a list of ints -/
theorem x_maxL {ns : List Int} {m : Int} {x : Str} {p : Pos} (ha : EV X R e ss O (.dat (.list (ns.map PyData.int))) O1) (h1 : m ∈ ns) (h2 : ∀ y ∈ ns, y ≤ m) (hm : X.mg "max" = none) (hc : X.calm = true := by rfl) (hx : x = "max" := by rfl) (hg : Gl X x := by rfl) (he : starEach [e] X.env = (false, eval e X.env) :: starEach [] X.env := by exact star_ne rfl) : EV X R (.Call (.Name x p) [e] [] pos) ss O (.dat (.int m)) O1 := by
  subst hx
  refine ej_b1 (cr_max hc) ha (fun G0 H0 G H σ ss xs S hk Q w => ?_) hm (by decide +kernel) hg (by decide) (by decide) he
  obtain ⟨v, rfl, r⟩ := kinds1 hk
  obtain ⟨q, vs, rfl, hq, hv⟩ := dp_lst r
  have ev : vs = ns.map V.int := by
    clear hq hk r w h1 h2 ha
    induction ns generalizing vs with
    | nil => cases hv; rfl
    | cons n ns ih =>
      cases hv with
      | cons h t =>
        cases h
        rw [ih _ t]
        rfl
  subst ev
  refine ⟨q, ns, rfl, .inl (.inl (S.gh _ _ hq)), List.length_pos_of_mem h1, fun m' hm' hle => ?_⟩
  have : m' = m := Int.le_antisymm (h2 m' hm') (hle m h1)
  subst this
  exact w.d S (Ex.refl G) (DP.int _) ⟨rfl, rfl⟩
/-- list(d) -/
theorem x_listD {kvs : List (Str × PyData)} {x : Str} {p : Pos} (ha : EV X R e ss O (.dat (dK kvs)) O1) (hm : X.mg "list" = none) (hc : X.calm = true := by rfl) (hx : x = "list" := by rfl) (hg : Gl X x := by rfl) (he : starEach [e] X.env = (false, eval e X.env) :: starEach [] X.env := by exact star_ne rfl) : EV X R (.Call (.Name x p) [e] [] pos) ss O (.dat (.list (kvs.map fun q => .str q.1))) O1 := by
  subst hx
  refine EN.frz (ej_t1 (call_listD hc) ha ?_ hm boot_list hg (by decide) (by decide) he)
  intro G0 H0 G H σ ss us S h1 Q w
  obtain ⟨v, rfl, r⟩ := kinds1 h1
  obtain ⟨q, o, ws, rfl, hq, kv⟩ := dp_dict r
  refine ⟨q, ws, rfl, .inr ⟨o, S.gh _ _ hq⟩, fun p' hp => ?_⟩
  refine w.v (S.new hp (b := .ol (kvs.map fun q => .str q.1)) ⟨_, upd_same, ?_⟩) (Ex.refl G) ⟨p', rfl, rfl⟩
  clear hq h1 r w ha
  induction kv with
  | nil => exact .nil
  | cons h t ih =>
    refine .cons ?_ ih
    show DP G (kV _) _
    rw [h.1]
    exact DP.str _
/-- a + b of lists, a new one that is ours -/
theorem en_ladd {d1 d2 : List PyData} (ha : EV X R a ss O (.dat (.list d1)) O1) (hb : EV X R b ss O1 (.dat (.list d2)) O2) (hl : d1.length + d2.length ≤ 16777216) : EN X R (.BinOp a .Add b pos) ss O (.ol (d1 ++ d2)) O2 :=
  ev_op op_cat ha hb fun G0 H0 G H σ ss x y S h1 h2 Q q => by
    obtain ⟨p1, xs, e1, g1, r1⟩ := dp_lst h1
    obtain ⟨p2, ys, e2, g2, r2⟩ := dp_lst h2
    refine ⟨p1, p2, xs, ys, e1, e2, S.gh _ _ g1, S.gh _ _ g2, by rw [dps_len r1, dps_len r2]; exact line24 hl, fun p hp => ?_⟩
    exact q.v (S.new hp (b := .ol (d1 ++ d2)) ⟨xs ++ ys, upd_same, dpAll_app r1 r2⟩) (Ex.refl G) ⟨p, rfl, rfl⟩
/-- a list of ours against plain data -/
theorem dp_ol {G0 H0 G H : Hp} {σ : L2.St} {ss : List Kd} {O : Store} {K : PySem.W.Frag} {p : Addr} {ds : List PyData} (S : Sta G0 H0 G H σ ss O) (hj : (p, Ob.ol ds) ∈ O) (s1 : pl (.list ds) = true) : Dp K H (.ref p) (.list ds) := by
  obtain ⟨i, hi⟩ := List.getElem?_of_mem hj
  obtain ⟨G', S', e', d'⟩ := S.freeze hi
  exact dp_of (pl_nod s1) (dp_ex S'.gh d')
theorem t_neO (j : Nat) {p : Addr} {ds : List PyData} {d2 : PyData} {t : Bool} (ha : EV X R a ss O (.val (.ref p)) O1) (hb : EV X R b ss O1 (.dat d2) O2) (hj : O2[j]? = some (p, .ol ds)) (s1 : pl (.list ds) = true) (s2 : pl d2 = true) (h : PyData.eqv (.list ds) d2 = t) (hr : Room n X.A) : TV X R (.Compare a [.NotEq] [b] pos) ss O (!t) O2 := by
  subst h
  exact tv_cmp (op_neD hr.units) ha hb (fun G0 H0 G H σ ss x y S h1 h2 Q q => by
    have : x = .ref p := h1
    subst this
    exact ⟨.list ds, d2, dp_ol S (List.mem_of_getElem? hj) s1, dp_of (pl_nod s2) (dp_ex S.gh h2), pl_sh s1, pl_sh s2, q.d S (Ex.refl G) (DP.bl _) ⟨rfl, rfl⟩⟩) (nomark _)
/-- sorted(d) of a dict of ours, fewer than 64 signs -/
theorem x_sortO (j : Nat) {q : Addr} {kvs : List (Str × PyData)} {cs : List Nat} {x : Str} {p : Pos} (ha : EV X R e ss O (.val (.ref q)) O1) (hj : O1[j]? = some (q, .od kvs)) (hk : kvs.map (·.1) = cs.map fun c => sL [c]) (hn : cs.Nodup) (hl : cs.length < 64) (hm : X.mg "sorted" = none) (hc : X.calm = true := by rfl) (hx : x = "sorted" := by rfl) (hg : Gl X x := by rfl) (he : starEach [e] X.env = (false, eval e X.env) :: starEach [] X.env := by exact star_ne rfl) :
    EV X R (.Call (.Name x p) [e] [] pos) ss O (.dat (.list ((dsg cs).map fun c => dS [c]))) O1 := by
  subst hx
  have h : EN X R (.Call (.Name "sorted" p) [e] [] pos) ss O (.ol ((srtT (cs.map fun c => [c])).map dS)) O1 := by
    refine ej_b1 (L2.call_sortedD hc) ha ?_ hm (by decide +kernel) hg (by decide) (by decide) he
    intro G0 H0 G H σ ss xs S h1 Q w
    obtain ⟨v, rfl, r⟩ := kinds1 h1
    have : v = .ref q := r
    subst this
    obtain ⟨⟨ws, hw, kv⟩, _, _⟩ := S.ob _ (List.mem_of_getElem? hj)
    have hkeys : ws.map (·.1) = (cs.map fun c => sL [c]).map Sum.inr := by rw [← hk]; exact kv_keys kv
    refine ⟨q, ws, cs.map fun c => sL [c], rfl, .inl hw, hkeys, by rw [List.length_map]; exact hl, fun ys p' pm hs hp => ?_⟩
    have e := sorted_is (xs := cs.map fun c => [c]) (ys := ys) (by rw [List.map_map]; exact pm) hs
    refine w.v (S.new hp (b := .ol ((srtT (cs.map fun c => [c])).map dS)) ⟨ys.map V.str, upd_same, ?_⟩) (Ex.refl G) ⟨p', rfl, rfl⟩
    have := strs_dps (G := G) ys
    rw [e] at this ⊢
    rw [List.map_map (f := sL) (g := PyData.str)] at this
    exact this
  have h := EN.frz h
  have e1 : srtT (cs.map fun c => [c]) = (dsg cs).map fun c => [c] := by
    refine perm_uniq (le := fun a b => ¬ b < a) (fun a b h1 h2 => tx_anti a b h1 h2) ((srtT_perm _).trans ?_) (srtT_sorted _) ?_
    · exact (List.perm_ext_iff_of_nodup hn (dsg_nodup cs)).mpr (fun z => dsg_mem.symm) |>.map _
    · rw [List.pairwise_map]
      exact (dsg_sorted cs).imp fun {a b} h h2 => by rw [sgl_lt] at h2; omega
  rw [e1, List.map_map] at h
  exact h
end
end Dl
end
section
/-! d[k]; the largest of some numbers -/
namespace Dl
open PySem PySem.Spec PyProof.Rows L2
open Evl (Ex)
theorem kv_some {G : Hp} {ws : List (Key × V)} {kvs : List (Str × PyData)} {s : Str} {d : PyData} (kv : KvD G ws kvs) (h : getT kvs s = some d) : ∃ v, valV ws (.inr s) = some v ∧ DP G v d := by
  have h1 := kv_isSome (k := s) kv
  rw [h] at h1
  have h2 := kv_val (k := s) kv (x := .non) (d := .none) DP.non
  rw [h] at h2
  cases e : valV ws (.inr s) with
  | none => rw [e] at h1; cases h1
  | some v => rw [e] at h2; exact ⟨v, rfl, h2⟩
section
variable {X : Cx} {R : Addr → Prop} {e a b c o f : Expr} {es : List Expr} {ss : List Kd} {O O1 O2 O3 O' : Store} {pos : Pos} {n : Nat}
/-- d[k] of a dict of ours -/
theorem ev_dixO (j : Nat) {q : Addr} {kvs : List (Str × PyData)} {s : Str} {d : PyData} (ha : EV X R a ss O (.val (.ref q)) O1) (hb : EV X R b ss O1 (.dat (.str s)) O2) (hj : O2[j]? = some (q, .od kvs)) (h : getT kvs s = some d) (hr : Room n X.A) (hs : NoSl b := by exact fun _ _ => rfl) : EV X R (.Subscript a b pos) ss O (.dat d) O2 := fun G0 H0 G H σ S L Q w =>
  wE_of (pe_dget (by have := hr.units; omega) peW peW hs) (ha G0 H0 G H σ S L _ fun G1 H1 v k1 O4 S1 e1 r1 ⟨h1, h2⟩ => by
    subst h1 h2
    have : v = .ref q := r1
    subst this
    refine hb G0 H0 G1 H1 σ S1 L _ fun G2 H2 v2 k2 O5 S2 e2 r2 ⟨h3, h4⟩ => ?_
    subst h3 h4
    cases dp_str r2
    obtain ⟨⟨ws, hw, kv⟩, _, _⟩ := S2.ob _ (List.mem_of_getElem? hj)
    obtain ⟨v, hv, rv⟩ := kv_some kv h
    exact ⟨q, v, rfl, .inl ⟨ws, .inr s, .inl hw, rfl, hv.symm⟩, w.d S2 (e1.trans e2) rv ⟨rfl, rfl⟩⟩)
/-- d[k] of a dict that is plain data -/
theorem ev_dixF {kvs : List (Str × PyData)} {s : Str} {d : PyData} (ha : EV X R a ss O (.dat (dK kvs)) O1) (hb : EV X R b ss O1 (.dat (.str s)) O2) (h : getT kvs s = some d) (hr : Room n X.A) (hs : NoSl b := by exact fun _ _ => rfl) : EV X R (.Subscript a b pos) ss O (.dat d) O2 := fun G0 H0 G H σ S L Q w =>
  wE_of (pe_dget (by have := hr.units; omega) peW peW hs) (ha G0 H0 G H σ S L _ fun G1 H1 v k1 O4 S1 e1 r1 ⟨h1, h2⟩ => by
    subst h1 h2
    obtain ⟨q, o, ws, rfl, hw, kv⟩ := dp_dict r1
    refine hb G0 H0 G1 H1 σ S1 L _ fun G2 H2 v2 k2 O5 S2 e2 r2 ⟨h3, h4⟩ => ?_
    subst h3 h4
    cases dp_str r2
    obtain ⟨v, hv, rv⟩ := kv_some (kv_ex e2 kv) h
    exact ⟨q, v, rfl, .inl ⟨ws, .inr s, .inr ⟨o, S2.gh _ _ (e2 _ _ hw)⟩, rfl, hv.symm⟩, w.d S2 (e1.trans e2) rv ⟨rfl, rfl⟩⟩)
end
section
variable {X : Cx} {R : Addr → Prop} {a b : Expr} {ss : List Kd} {O O' : Store} {pos : Pos} {rest : List Stmt} {D : DE}
/-- a, b = e, f by way of the tuple (a name that a comprehension reads, too) -/
theorem sj_parG (i j : Nat) {x y : Str} {px py pt : Pos} {kt k2 : Nat} {pt2 : Pos} (ha : AJ X R [a, b] ss O fun ks O' => ∃ k1 k2, ks = [k1, k2] ∧ SJ X R rest ((ss.set i k1).set j k2) O' D) (hN : X.N.Nodup) (hc : X.calm = true := by rfl) (hi : X.N[i]? = some x := by rfl) (hj : X.N[j]? = some y := by rfl)
    (hx : Loc X.env.scope x := by first | exact Or.inl rfl | exact Or.inr rfl) (hy : Loc X.env.scope y := by first | exact Or.inl rfl | exact Or.inr rfl) (hfx : X.fn x = true ∨ X.env.scope.names.lookup x = some .local := by first | exact .inl rfl | exact .inr rfl) (hfy : X.fn y = true ∨ X.env.scope.names.lookup y = some .local := by first | exact .inl rfl | exact .inr rfl)
    (hl : (assignEach [.Name x px, .Name y py] X.env).length = 2 := by rfl) (hst : (assignEach [.Name x px, .Name y py] X.env).findIdx? (·.1) = none := by rfl)
    (hs : swapsWithSole [.Tuple [.Name x px, .Name y py] kt pt] (.Tuple [a, b] k2 pt2) pos.line X.env = pure false := by rfl) (hw : swappedStores [.Tuple [.Name x px, .Name y py] kt pt] (.Tuple [a, b] k2 pt2) X.env = pure none := by rfl)
    (h1 : (assignEach [.Tuple [.Name x px, .Name y py] kt pt] X.env).map (·.2) = [assign (.Tuple [.Name x px, .Name y py] kt pt) X.env] := by rfl) : SJ X R (.Assign [.Tuple [.Name x px, .Name y py] kt pt] (.Tuple [a, b] k2 pt2) pos :: rest) ss O D := sj_cons fun G0 H0 G H σ S L E s =>
  wS_of (ps_asg (pe_tupP paW) (pg_tup hc (pgs_cons (pg_name (i := i) hN hi hx (hf := hfx)) (pgs_cons (pg_name (i := j) hN hj hy (hf := hfy)) pgs_nil)) hl hst) hs hw h1) (ha G0 H0 G H σ S L _ fun G1 H1 vs ks O1 S1 e1 r1 ⟨k1, k2, e2, h⟩ => by
    subst e2
    obtain ⟨v, w, rfl, d1, d2⟩ := kinds2 r1
    refine ⟨by rw [sizeLine_eq]; exact (by decide : 2 ≤ 16777216), fun p o hp ho => ?_⟩
    have eg : Ex G1 (upd G1 p (.frz o (.tup [v, w]))) := Ex.new (S1.free hp)
    have S2 := S1.data hp (.frz o (.tup [v, w]))
    refine ⟨p, [v, w], rfl, (PTu.new ho).sq S2.gh, rfl, v, [w], rfl, w, [], rfl, rfl, ?_⟩
    exact s.nx _ _ _ _ O1 ((S2.set i (kd_ex eg d1)).set j (kd_ex eg d2)) (e1.trans eg) h)
end
/-- the largest, at least b -/
def mx (b : Nat) (l : List Nat) : Nat := l.foldl max b
theorem mx_cons (b a : Nat) (l : List Nat) : mx b (a :: l) = mx (max b a) l := rfl
theorem mx_ge : ∀ (l : List Nat) (b : Nat), b ≤ mx b l ∧ ∀ a ∈ l, a ≤ mx b l
  | [], b => ⟨Nat.le_refl _, fun _ h => nomatch h⟩
  | a :: l, b => by
    obtain ⟨h1, h2⟩ := mx_ge l (max b a)
    rw [mx_cons]
    exact ⟨by omega, fun x hx => by
      rcases List.mem_cons.mp hx with rfl | hx
      · omega
      · exact h2 x hx⟩
theorem mx_mem : ∀ (l : List Nat) (b : Nat), mx b l = b ∨ mx b l ∈ l
  | [], b => .inl rfl
  | a :: l, b => by
    rw [mx_cons]
    rcases mx_mem l (max b a) with h | h
    · rw [h]
      by_cases c : b ≤ a
      · right; rw [Nat.max_eq_right c]; exact List.mem_cons_self
      · left; rw [Nat.max_eq_left (by omega)]
    · exact .inr (List.mem_cons_of_mem _ h)
theorem mx_le {l : List Nat} {b m : Nat} (hb : b ≤ m) (h : ∀ a ∈ l, a ≤ m) : mx b l ≤ m := by
  rcases mx_mem l b with e | e
  · rw [e]; exact hb
  · exact h _ e
section
variable {X : Cx} {R : Addr → Prop} {e a b c o f : Expr} {es : List Expr} {ss : List Kd} {O O1 O2 O3 O' : Store} {pos : Pos} {n : Nat}
/-- max([b] + xs) -/
theorem x_mx {d : PyData} {l : List Nat} {m0 : Nat} {x : Str} {p : Pos} (ha : EV X R e ss O (.dat d) O1) (hd : d = .list ((m0 :: l).map fun (m : Nat) => PyData.int (m : Int))) (hm : X.mg "max" = none) (hc : X.calm = true := by rfl) (hx : x = "max" := by rfl) (hg : Gl X x := by rfl) (he : starEach [e] X.env = (false, eval e X.env) :: starEach [] X.env := by exact star_ne rfl) : EV X R (.Call (.Name x p) [e] [] pos) ss O (.dat (.int (mx m0 l : Nat))) O1 := by
  subst hd
  have e1 : ((m0 :: l).map fun (m : Nat) => PyData.int (m : Int)) = (((m0 :: l).map fun (m : Nat) => (m : Int)).map PyData.int) := by rw [List.map_map]; rfl
  rw [e1] at ha
  refine x_maxL ha ?_ ?_ hm hc hx hg he
  · rcases mx_mem l m0 with h | h
    · rw [h]; exact List.mem_map_of_mem (f := fun (m : Nat) => (m : Int)) List.mem_cons_self
    · exact List.mem_map_of_mem (f := fun (m : Nat) => (m : Int)) (List.mem_cons_of_mem _ h)
  · intro y hy
    obtain ⟨z, hz, rfl⟩ := List.mem_map.mp hy
    have := mx_ge l m0
    rcases List.mem_cons.mp hz with rfl | hz
    · have := this.1; omega
    · have := this.2 z hz; omega
end
end Dl
end
section
namespace Dl
open PySem PySem.Spec PyProof.Rows L2
open Evl (Ex)
section
variable {X : Cx} {R : Addr → Prop} {e : Expr} {ss : List Kd} {O O' : Store} {pos : Pos} {rest : List Stmt} {D : DE}
/-- a, b = a pair that is data -/
theorem sj_unp2 (i j : Nat) {x y : Str} {px py pt : Pos} {kt : Nat} {d1 d2 : PyData} (he : EV X R e ss O (.dat (.tuple [d1, d2])) O') (h : SJ X R rest ((ss.set i (.dat d1)).set j (.dat d2)) O' D) (hN : X.N.Nodup) (hc : X.calm = true := by rfl) (hi : X.N[i]? = some x := by rfl) (hj : X.N[j]? = some y := by rfl)
    (hx : Loc X.env.scope x := by first | exact Or.inl rfl | exact Or.inr rfl) (hy : Loc X.env.scope y := by first | exact Or.inl rfl | exact Or.inr rfl) (hfx : X.fn x = true ∨ X.env.scope.names.lookup x = some .local := by first | exact .inl rfl | exact .inr rfl) (hfy : X.fn y = true ∨ X.env.scope.names.lookup y = some .local := by first | exact .inl rfl | exact .inr rfl)
    (hl : (assignEach [.Name x px, .Name y py] X.env).length = 2 := by rfl) (hst : (assignEach [.Name x px, .Name y py] X.env).findIdx? (·.1) = none := by rfl)
    (hs : swapsWithSole [.Tuple [.Name x px, .Name y py] kt pt] e pos.line X.env = pure false := by rfl) (hw : swappedStores [.Tuple [.Name x px, .Name y py] kt pt] e X.env = pure none := by rfl)
    (h1 : (assignEach [.Tuple [.Name x px, .Name y py] kt pt] X.env).map (·.2) = [assign (.Tuple [.Name x px, .Name y py] kt pt) X.env] := by rfl) : SJ X R (.Assign [.Tuple [.Name x px, .Name y py] kt pt] e pos :: rest) ss O D := sj_cons fun G0 H0 G H σ S L E s =>
  wS_of (ps_asg peW (pg_tup hc (pgs_cons (pg_name (i := i) hN hi hx (hf := hfx)) (pgs_cons (pg_name (i := j) hN hj hy (hf := hfy)) pgs_nil)) hl hst) hs hw h1) (he G0 H0 G H σ S L _ fun G1 H1 v k O1 S1 e1 r1 ⟨g1, g2⟩ => by
    subst g1 g2
    obtain ⟨p, xs, rfl, g, r⟩ := dp_tup r1
    cases r with
    | cons r1 t => cases t with
      | cons r2 t => cases t; exact ⟨p, _, rfl, g.sq S1.gh, rfl, _, _, rfl, _, _, rfl, rfl, s.nx G1 H1 _ _ O1 ((S1.set i (k := .dat d1) r1).set j (k := .dat d2) r2) e1 h⟩)
end
end Dl
end
section
/-! is None, of data that is not known -/
namespace Dl
open PySem PySem.Spec PyProof.Rows L2
def isNoD : PyData → Bool
  | .none => true
  | _ => false
section
variable {X : Cx} {R : Addr → Prop} {a : Expr} {ss : List Kd} {O O1 : Store} {pos p2 : Pos} {j : Nat} {d1 : PyData}
theorem x_isNb (ha : EV X R a ss O (.dat d1) O1) : EV X R (.Compare a [.Is] [.Constant .none j p2] pos) ss O (.dat (.bool (isNoD d1))) O1 := by cases d1 <;> exact x_isN ha
theorem x_notNb (ha : EV X R a ss O (.dat d1) O1) : EV X R (.Compare a [.IsNot] [.Constant .none j p2] pos) ss O (.dat (.bool (!isNoD d1))) O1 := by cases d1 <;> exact ev_notN ha
theorem t_isNb (ha : EV X R a ss O (.dat d1) O1) : TV X R (.Compare a [.Is] [.Constant .none j p2] pos) ss O (isNoD d1) O1 := by cases d1 <;> exact t_isN ha
theorem t_notNb (ha : EV X R a ss O (.dat d1) O1) : TV X R (.Compare a [.IsNot] [.Constant .none j p2] pos) ss O (!isNoD d1) O1 := by cases d1 <;> exact t_notN ha
end
end Dl
end
section
/-! tables of sets with up to 512 slots -/
namespace Dl
open PySem PySem.Spec PyProof.Rows L2
def MaskG (m : Nat) : Prop := MaskOk m ∨ m = 511
/-- the round of 512, as a list -/
def round512 : Nat → Nat → List Nat
  | 0, _ => []
  | n + 1, x => x :: round512 n ((x * 5 + 1) % 512)
theorem round512_mem : ∀ (n a y : Nat), y ∈ round512 n (lcgN 511 a) → ∃ b, b < a + n ∧ lcgN 511 b = y
  | 0, _, _, h => nomatch h
  | n + 1, a, y, h => by
    rcases List.mem_cons.mp h with e | h
    · exact ⟨a, by omega, e.symm⟩
    · obtain ⟨b, hb, e⟩ := round512_mem n (a + 1) y h
      exact ⟨b, by omega, e⟩
theorem round512_all : ((List.range 512).all fun j => (round512 512 0).contains j) = true := by decide +kernel
theorem round512_end : lcgN 511 512 = 0 := by decide +kernel
theorem l511_at {j : Nat} (hj : j ≤ 511) : ∃ b, b ≤ 511 ∧ lcgN 511 b = j := by
  have h := List.all_eq_true.mp round512_all j (List.mem_range.mpr (by omega))
  obtain ⟨b, hb, e⟩ := round512_mem 512 0 j (List.contains_iff_mem.mp h)
  exact ⟨b, by omega, e⟩
theorem l511_mod : ∀ k, lcgN 511 (512 + k) = lcgN 511 k
  | 0 => round512_end
  | k + 1 => congrArg (fun z => (z * 5 + 1) % 512) (l511_mod k)
theorem l511_from {i j : Nat} (hi : i ≤ 511) (hj : j ≤ 511) : ∃ k, k ≤ 511 ∧ lcgI 511 i k = j := by
  obtain ⟨a, ha, ea⟩ := l511_at hi
  obtain ⟨b, hb, eb⟩ := l511_at hj
  subst ea
  by_cases c : a ≤ b
  · exact ⟨b - a, by omega, by rw [lcgN_add, show a + (b - a) = b by omega, eb]⟩
  · exact ⟨512 + b - a, by omega, by rw [lcgN_add, show a + (512 + b - a) = 512 + b by omega, l511_mod, eb]⟩
/-- a run begins at each slot, early enough -/
theorem meetsG {m : Nat} (hm : MaskG m) (h : Int) {j : Nat} (hj : j ≤ m) : ∃ n, n ≤ m + 12 ∧ runI m (SetTable.bits h) n = j := by
  rcases hm with hm | rfl
  · exact run_meets hm h hj
  · obtain ⟨k, hk, e⟩ := l511_from (runI_le 511 (SetTable.bits h) 12) hj
    exact ⟨12 + k, by omega, (runI_tail (bits_lt h) k).trans e⟩
theorem oddG {m : Nat} (hm : MaskG m) : m % 2 = 1 := by
  rcases hm with hm | rfl
  · exact mask_odd hm
  · rfl
theorem leG {m : Nat} (hm : MaskG m) : m ≤ 511 := by
  rcases hm with (e | e | e) | e <;> omega
theorem wayG (m : Nat) (h : Int) (k : Nat) : way m h k ≤ m := by
  have q := nth_in (m := m) k (runAt m (SetTable.bits h % (m + 1)) (SetTable.bits h)) (by
    have hi : SetTable.bits h % (m + 1) ≤ m := Nat.le_of_lt_succ (Nat.mod_lt _ (Nat.succ_pos m))
    have := runEnd_bd hi
    show SetTable.bits h % (m + 1) + (SetTable.runEnd m (SetTable.bits h % (m + 1)) - SetTable.bits h % (m + 1)) ≤ m
    omega)
  exact Nat.le_trans (Nat.le_add_right _ _) q
structure TabG (t : SetTable) (hs : List Int) : Prop where
  ris : Ris t.place.toList
  dm : t.dummies = #[]
  sz : t.place.size = hs.length
  mok : MaskG t.mask
  bd : ∀ x ∈ t.place.toList, x ≤ t.mask
  reach : ∀ (i : Nat) (h : Int) (j : Nat), hs[i]? = some h → t.place.toList[i]? = some j → ∃ k, way t.mask h k = j ∧ ∀ k', k' < k → way t.mask h k' ∈ t.place.toList
/-- the first place of the way that a list leaves out -/
theorem firstG {m : Nat} (hm : MaskG m) (js : List Nat) (hl : js.length ≤ m) (h : Int) : ∃ n K, n ≤ m + 12 ∧ K ≤ off m (SetTable.bits h % (m + 1)) (SetTable.bits h) n ∧ way m h K ∉ js ∧ ∀ k, k < K → way m h k ∈ js := by
  obtain ⟨j, hj, hn⟩ := st_missing js (m + 1) (by omega)
  obtain ⟨n, hn1, e⟩ := meetsG hm h (Nat.le_of_lt_succ hj)
  have hw : way m h (off m (SetTable.bits h % (m + 1)) (SetTable.bits h) n) = j := by
    show (nth m _ _).j = j
    rw [nth_off, itL_run]; exact e
  obtain ⟨K, h1, h2, h3⟩ := st_least (p := fun k => way m h k ∉ js) _ (by rw [hw]; exact hn)
  exact ⟨n, K, hn1, h1, h2, fun k hk => Classical.not_not.mp (h3 k hk)⟩
theorem off_le (m : Nat) : ∀ (n i b : Nat), i ≤ m → off m i b n ≤ 10 * n
  | 0, _, _, _ => Nat.le_refl _
  | n + 1, i, b, hi => by
    have h1 := off_le m n (SetTable.leap m i b).1 (SetTable.leap m i b).2 (leap_le m i b)
    have h2 := runEnd_bd hi
    show (SetTable.runEnd m i - i + 1) + off m (SetTable.leap m i b).1 (SetTable.leap m i b).2 n ≤ 10 * (n + 1)
    omega
theorem TabG.first {t : SetTable} {hs : List Int} (T : TabG t hs) (hl : hs.length ≤ t.mask) (h : Int) : ∃ K, K < 10 * SetTable.turns t.mask ∧ way t.mask h K ∉ t.place.toList ∧ ∀ k, k < K → way t.mask h k ∈ t.place.toList := by
  obtain ⟨n, K, h1, h2, h3, h4⟩ := firstG T.mok t.place.toList (by rw [Array.length_toList, T.sz]; exact hl) h
  have := off_le t.mask n (SetTable.bits h % (t.mask + 1)) (SetTable.bits h) (Nat.le_of_lt_succ (Nat.mod_lt _ (Nat.succ_pos _)))
  exact ⟨K, by unfold SetTable.turns; omega, h3, h4⟩
theorem TabG.before {t : SetTable} {hs : List Int} (T : TabG t hs) {h : Int} {K i j : Nat} (hK : way t.mask h K ∉ t.place.toList) (hi : hs[i]? = some h) (hj : t.place.toList[i]? = some j) : ∃ k, k < K ∧ way t.mask h k = j := by
  obtain ⟨k, rfl, hb⟩ := T.reach i h j hi hj
  have hm := List.mem_of_getElem? hj
  refine ⟨k, Nat.lt_of_not_le fun c => ?_, rfl⟩
  rcases Nat.lt_or_eq_of_le c with c | rfl
  · exact hK (hb K c)
  · exact hK hm
/-- what stands in two lists at one place stands so after the same insertion -/
theorem ins_two {α β : Type} {a : List α} {b : List β} {p : Nat} (ha : p ≤ a.length) (hb : p ≤ b.length) {x : α} {y : β} {i : Nat} {u : α} {v : β} (h1 : (a.take p ++ x :: a.drop p)[i]? = some u) (h2 : (b.take p ++ y :: b.drop p)[i]? = some v) :
    (u = x ∧ v = y) ∨ ∃ i' : Nat, a[i']? = some u ∧ b[i']? = some v := by
  rw [tins_get a ha] at h1
  rw [tins_get b hb] at h2
  split at h1
  · rename_i c
    rw [if_pos c] at h2
    exact .inr ⟨i, h1, h2⟩
  · rename_i c
    rw [if_neg c] at h2
    split at h1
    · rename_i d
      rw [if_pos d] at h2
      exact .inl ⟨(Option.some.inj h1).symm, (Option.some.inj h2).symm⟩
    · rename_i d
      rw [if_neg d] at h2
      exact .inr ⟨i - 1, h1, h2⟩
theorem TabG.put {t : SetTable} {hs : List Int} (T : TabG t hs) {h : Int} {K : Nat} (hK : way t.mask h K ∉ t.place.toList) (hb : ∀ k, k < K → way t.mask h k ∈ t.place.toList) :
    (t.put (way t.mask h K)).2 = SetTable.below t.place (way t.mask h K) ∧ SetTable.below t.place (way t.mask h K) ≤ hs.length ∧
    TabG (t.put (way t.mask h K)).1 (hs.take (SetTable.below t.place (way t.mask h K)) ++ h :: hs.drop (SetTable.below t.place (way t.mask h K))) ∧
    (t.put (way t.mask h K)).1.mask = t.mask ∧ (t.put (way t.mask h K)).1.led = t.led ∧ (t.put (way t.mask h K)).1.fill = hs.length + 1 := by
  have hp := (below_cut T.ris (way t.mask h K)).1
  have pp := put_place t (way t.mask h K)
  have hl1 : SetTable.below t.place (way t.mask h K) ≤ t.place.toList.length := by rw [Array.length_toList]; exact hp
  have hl2 : SetTable.below t.place (way t.mask h K) ≤ hs.length := by rw [← T.sz]; exact hp
  have hd := put_dm T.dm (way t.mask h K)
  have hsz : (t.put (way t.mask h K)).1.place.size = hs.length + 1 := by rw [← Array.length_toList, pp, len_ins _ hl1, Array.length_toList, T.sz]
  have hin : ∀ x, x ∈ (t.put (way t.mask h K)).1.place.toList ↔ x = way t.mask h K ∨ x ∈ t.place.toList := fun x => by rw [pp]; exact mem_ins
  refine ⟨rfl, hl2, ⟨ris_insert T.ris fun e => hK (List.mem_of_getElem? (by rw [Array.getElem?_toList]; exact e)), hd, by rw [hsz, len_ins _ hl2], T.mok, fun x hx => ?_, fun i h' j h1 h2 => ?_⟩, rfl, rfl, ?_⟩
  · rcases (hin x).mp hx with rfl | hx
    · exact wayG _ _ _
    · exact T.bd x hx
  · rw [pp] at h2
    rcases ins_two hl2 hl1 h1 h2 with ⟨rfl, rfl⟩ | ⟨i', a1, a2⟩
    · exact ⟨K, rfl, fun k' hk' => (hin _).mpr (.inr (hb k' hk'))⟩
    · obtain ⟨k, e, z⟩ := T.reach i' h' j a1 a2
      exact ⟨k, e, fun k' hk' => (hin _).mpr (.inr (z k' hk'))⟩
  · show (t.put (way t.mask h K)).1.place.size + (t.put (way t.mask h K)).1.dummies.size = _
    rw [hsz, hd]; rfl
/-! ### laid anew -/
/-- js: the slots, in the order in which the hashes came -/
structure Laid (m : Nat) (done : List Int) (js : List Nat) (owner : Array (Option Nat)) : Prop where
  sz : owner.size = m + 1
  len : js.length = done.length
  nd : js.Nodup
  bd : ∀ j ∈ js, j ≤ m
  ow : ∀ j k, j ≤ m → (oAt owner j = some k ↔ js[k]? = some j)
  rc : ∀ (k : Nat) (h : Int) (j : Nat), done[k]? = some h → js[k]? = some j → ∃ K, way m h K = j ∧ ∀ k', k' < K → way m h k' ∈ js
theorem Laid.none_iff {m : Nat} {done : List Int} {js : List Nat} {owner : Array (Option Nat)} (W : Laid m done js owner) {j : Nat} (hj : j ≤ m) : oAt owner j = none ↔ j ∉ js := by
  constructor
  · intro e hm
    obtain ⟨k, hk⟩ := List.mem_iff_getElem?.mp hm
    rw [(W.ow j k hj).mpr hk] at e
    cases e
  · intro hn
    cases e : oAt owner j with
    | none => rfl
    | some k => exact absurd (List.mem_of_getElem? ((W.ow j k hj).mp e)) hn
theorem Laid.zero (m : Nat) : Laid m [] [] (Array.replicate (m + 1) none) :=
  ⟨by simp, rfl, .nil, fun j hj => (nomatch hj), fun j k hj => by rw [oAt_init hj]; simp, fun k h j hk => by simp at hk⟩
theorem Laid.step {m : Nat} (hm : MaskG m) {done : List Int} {js : List Nat} {owner : Array (Option Nat)} (W : Laid m done js owner) (hl : done.length ≤ m) (h : Int) :
    ∃ j, SetTable.layClean.free m owner (SetTable.turns m) (SetTable.bits h % (m + 1)) (SetTable.bits h) = some j ∧ Laid m (done ++ [h]) (js ++ [j]) (owner.setIfInBounds j (some done.length)) := by
  obtain ⟨n, K, a1, a2, a3, a4⟩ := firstG hm js (by rw [W.len]; exact hl) h
  have hw := wayG m h K
  have hs : way m h K < owner.size := by rw [W.sz]; omega
  refine ⟨way m h K, free_spec m owner (SetTable.turns m) n _ _ K (by unfold SetTable.turns; omega) a2 (fun k hk => ?_) ?_, ?_⟩
  · cases e : oAt owner (way m h k) with
    | none => exact absurd (a4 k hk) ((W.none_iff (wayG m h k)).mp e)
    | some x => rfl
  · show (oAt owner (way m h K)).isNone = true
    rw [(W.none_iff hw).mpr a3]; rfl
  · refine ⟨by rw [Array.size_setIfInBounds]; exact W.sz, by rw [List.length_append, List.length_append, W.len]; rfl, ?_, fun j hj => ?_, fun j k hj => ?_, fun k h' j h1 h2 => ?_⟩
    · refine List.nodup_append.mpr ⟨W.nd, by simp, fun a ha b hb e => ?_⟩
      rw [List.mem_singleton.mp hb] at e
      exact a3 (e ▸ ha)
    · rcases List.mem_append.mp hj with z | z
      · exact W.bd j z
      · rw [List.mem_singleton.mp z]; exact hw
    · by_cases c : j = way m h K
      · rw [c, oAt_set_self _ hs, ← W.len]
        constructor
        · intro e
          rw [← Option.some.inj e, List.getElem?_append_right (Nat.le_refl _), Nat.sub_self]; rfl
        · intro e
          rcases Nat.lt_or_ge k js.length with d | d
          · rw [List.getElem?_append_left d] at e
            exact absurd (List.mem_of_getElem? e) a3
          · have := (List.getElem?_eq_some_iff.mp e).1
            rw [List.length_append, List.length_singleton] at this
            rw [show k = js.length by omega]
      · rw [oAt_set_ne _ c, W.ow j k hj]
        constructor
        · intro e
          rw [List.getElem?_append_left (List.getElem?_eq_some_iff.mp e).1]; exact e
        · intro e
          rcases Nat.lt_or_ge k js.length with d | d
          · rwa [List.getElem?_append_left d] at e
          · rw [List.getElem?_append_right d] at e
            exact absurd (List.mem_singleton.mp (List.mem_of_getElem? e)) c
    · rcases Nat.lt_or_ge k done.length with d | d
      · rw [List.getElem?_append_left d] at h1
        rw [List.getElem?_append_left (by rw [W.len]; exact d)] at h2
        obtain ⟨K', e, z⟩ := W.rc k h' j h1 h2
        exact ⟨K', e, fun k' hk' => List.mem_append_left _ (z k' hk')⟩
      · rw [List.getElem?_append_right d] at h1
        rw [List.getElem?_append_right (by rw [W.len]; exact d)] at h2
        have e1 := List.mem_singleton.mp (List.mem_of_getElem? h1)
        have e2 := List.mem_singleton.mp (List.mem_of_getElem? h2)
        subst e1 e2
        exact ⟨K, rfl, fun k' hk' => List.mem_append_left _ (a4 k' hk')⟩
theorem laid_fold {m : Nat} (hm : MaskG m) : ∀ (rest done : List Int) (js : List Nat) (owner : Array (Option Nat)), Laid m done js owner → done.length + rest.length ≤ m →
    ∃ js' owner', rest.foldl (stepF m) (some (owner, done.length)) = some (owner', done.length + rest.length) ∧ Laid m (done ++ rest) js' owner'
  | [], done, js, owner, W, _ => ⟨js, owner, rfl, by rw [List.append_nil]; exact W⟩
  | h :: rest, done, js, owner, W, hl => by
    rw [List.length_cons] at hl ⊢
    obtain ⟨j, e, W'⟩ := W.step hm (by omega) h
    have l1 : (done ++ [h]).length = done.length + 1 := by rw [List.length_append]; rfl
    obtain ⟨js', owner', f, W2⟩ := laid_fold hm rest (done ++ [h]) (js ++ [j]) _ W' (by omega)
    rw [List.append_assoc] at W2
    rw [l1, show done.length + 1 + rest.length = done.length + (rest.length + 1) by omega] at f
    exact ⟨js', owner', by rw [List.foldl_cons, stepF_some e]; exact f, W2⟩
theorem laid_all {m : Nat} (hm : MaskG m) {hs : Array Int} (hn : hs.size ≤ m) : ∃ js owner, SetTable.layClean m hs = some owner ∧ Laid m hs.toList js owner := by
  obtain ⟨js, owner, f, W⟩ := laid_fold hm hs.toList [] [] _ (Laid.zero m) (by show 0 + hs.toList.length ≤ m; rw [Array.length_toList]; omega)
  exact ⟨js, owner, by rw [layClean_eq]; exact congrArg _ f, W⟩
theorem relaidG (t : SetTable) {hs : Array Int} {wanted M : Nat} (hw : SetTable.sizeAbove wanted - 1 = M) (hM : MaskG M) (hn : hs.size ≤ M) :
    ∃ t' order, t.relaid hs wanted = some (t', order) ∧ order.toList.Perm (List.range hs.size) ∧ TabG t' (order.toList.map fun i => hs.getD i 0) ∧ t'.mask = M ∧ t'.led = t.led := by
  obtain ⟨js, owner, e, W⟩ := laid_all hM hn
  have live : ∀ j k, (j, k) ∈ liveOf M owner ↔ js[k]? = some j := fun j k => by
    rw [mem_live W.sz]
    constructor
    · rintro ⟨h1, h2⟩
      exact (W.ow j k h1).mp h2
    · intro h
      have := W.bd j (List.mem_of_getElem? h)
      exact ⟨this, (W.ow j k this).mpr h⟩
  have fst : ∀ j, j ∈ (liveOf M owner).map (·.1) ↔ j ∈ js := fun j => by
    rw [List.mem_map]
    constructor
    · rintro ⟨⟨j', k⟩, hm, rfl⟩
      exact List.mem_of_getElem? ((live _ _).mp hm)
    · intro hj
      obtain ⟨k, hk⟩ := List.mem_iff_getElem?.mp hj
      exact ⟨(j, k), (live _ _).mpr hk, rfl⟩
  have ris := (ris_live (fun j => owner.getD j none) (List.range (M + 1)) (by
    unfold Ris
    first | exact List.pairwise_lt_range | exact List.pairwise_lt_range _)).1
  have ris' : Ris ((liveOf M owner).map (·.1)) := ris
  have nd : ((liveOf M owner).map (·.1)).Nodup := List.Pairwise.imp (fun h => Nat.ne_of_lt h) ris'
  have hlen : (liveOf M owner).length = hs.size := by
    have a := nat_nodup_len _ js nd fun x hx => (fst x).mp hx
    have b := nat_nodup_len js _ W.nd fun x hx => (fst x).mpr hx
    have c := W.len
    rw [List.length_map] at a b
    have d : hs.toList.length = hs.size := rfl
    omega
  refine ⟨tabOf t M owner, ((liveOf M owner).map (·.2)).toArray, by rw [relaid_eq, hw, e]; rfl, ?_, ⟨ris', rfl, ?_, hM, fun x hx => ?_, fun i h j h1 h2 => ?_⟩, rfl, rfl⟩
  · refine perm_range _ _ (by show ((liveOf M owner).map (·.2)).length = _; rw [List.length_map]; exact hlen) fun k hk => ?_
    have kl : k < js.length := by rw [W.len, Array.length_toList]; exact hk
    exact List.mem_map.mpr ⟨(js[k], k), (live _ _).mpr (List.getElem?_eq_getElem kl), rfl⟩
  · show ((liveOf M owner).map (·.1)).toArray.size = (((liveOf M owner).map (·.2)).map fun i => hs.getD i 0).length
    simp only [List.size_toArray, List.length_map]
  · exact W.bd x ((fst x).mp hx)
  · have h1' : (((liveOf M owner).map (·.2)).map fun i => hs.getD i 0)[i]? = some h := h1
    have h2' : ((liveOf M owner).map (·.1))[i]? = some j := h2
    rw [List.getElem?_map, List.getElem?_map, Option.map_map] at h1'
    rw [List.getElem?_map] at h2'
    obtain ⟨q, hq, rfl⟩ := Option.map_eq_some_iff.mp h2'
    rw [hq] at h1'
    have e1 : hs.getD q.2 0 = h := Option.some.inj h1'
    have jq := (live q.1 q.2).mp (List.mem_of_getElem? hq)
    have kl : q.2 < hs.toList.length := by
      have := (List.getElem?_eq_some_iff.mp jq).1
      rw [← W.len]; exact this
    have e2 : hs.toList[q.2]? = some h := by
      rw [← e1, Array.getD_eq_getD_getElem?, ← Array.getElem?_toList, List.getElem?_eq_getElem kl]; rfl
    obtain ⟨K, a1, a2⟩ := W.rc q.2 h q.1 e2 jq
    exact ⟨K, a1, fun k' hk' => (fst _).mpr (a2 k' hk')⟩
theorem size_308 : SetTable.sizeAbove (SetTable.grown 77) = 512 := by decide +kernel
end Dl
end
section
/-! sets of nested keys (tuples of texts, numbers, tuples): made, measured -/
namespace Dl
open PySem PySem.Spec PyProof.Rows L2
/-! ### what a search asks of keys -/
section
variable {P : Program} {w : World}
/-- of no class statement -/
def NoCls (P : Program) (w : World) (n : Nat) (s : Shared) (v : Value) : Prop := ∀ (A : Around) (E : Value → Shared → Prop) (Q : Bool → Shared → Prop), Q false s → wpAny (model P w) A (ofAClassStatement n v) Q E s
/-- whether its hash goes by value can be told -/
def ByVal (P : Program) (w : World) (n : Nat) (s : Shared) (v : Value) : Prop := ∀ (A : Around) (E : Value → Shared → Prop) (Q : Bool → Shared → Prop), (∀ b, Q b s) → wpAny (model P w) A (hashByValue n v) Q E s
theorem NoCls.flat {n : Nat} {s : Shared} {v : Value} (h : carriedByValue v = true) : NoCls P w n s v := fun A E Q q => by
  have e : ofAClassStatement n v = pure false := by
    cases v with
    | ref a => cases h
    | _ => cases n <;> rfl
  rw [e]; exact wpAny_pure q
theorem NoCls.tup {n : Nat} {s : Shared} {a : Addr} {o : Obj} {vs : Array Value} {m : Nat} (g : s.heap.get? a = some o) (c : o.cls = .type "tuple") (d : o.data = .seq vs m) (all : ∀ v ∈ vs.toList, NoCls P w n s v) : NoCls P w (n + 1) s (.ref a) := fun A E Q q => by
  unfold ofAClassStatement
  refine wpAny_bind (wpAny_typeOf (⟨o, g, c⟩ : s.TypeIs (.ref a) "tuple") ?_); dsimp only
  simp only [show (("tuple" : String) == "tuple") = true from by decide, if_true, Bool.not_true, Bool.false_eq_true, if_false]
  try refine wpAny_bind (wpAny_pure ?_)
  try simp only [Bool.not_true, Bool.false_eq_true, if_false]
  show wpAny _ _ ((seqItems? (.ref a)) >>= _) _ _ s
  refine wpAny_bind (wpAny_seqItems g d ?_); dsimp only
  refine wpAny_bind ?_
  show wpAny _ _ (forIn vs (_, _) _) _ _ s
  rw [← Array.forIn_toList]
  refine wpAny_forIn_list _ (fun l r s' => (r.1 = none ∧ s' = s) ∧ ∀ v ∈ l, NoCls P w n s v) _ ?_ ?_ _ _ ⟨⟨rfl, rfl⟩, all⟩
  · rintro v l r s' ⟨⟨hr, rfl⟩, hl⟩
    refine wpAny_bind (hl v List.mem_cons_self _ _ _ ?_)
    simp only [Bool.false_eq_true, if_false]
    exact wpAny_pure ⟨⟨rfl, rfl⟩, fun u hu => hl u (List.mem_cons_of_mem _ hu)⟩
  · rintro ⟨r1, r2⟩ s' ⟨⟨hr, rfl⟩, _⟩
    obtain rfl : r1 = none := hr
    exact wpAny_pure q
theorem ByVal.flat {n : Nat} {s : Shared} {v : Value} (h : ∃ b, hashByValue n v = pure b) : ByVal P w n s v := fun A E Q q => by
  obtain ⟨b, e⟩ := h
  rw [e]; exact wpAny_pure (q b)
theorem ByVal.tup {n : Nat} {s : Shared} {a : Addr} {o : Obj} {vs : Array Value} {m : Nat} (g : s.heap.get? a = some o) (c : o.cls = .type "tuple") (d : o.data = .seq vs m) (all : ∀ v ∈ vs.toList, ByVal P w n s v) : ByVal P w (n + 1) s (.ref a) := fun A E Q q => by
  unfold hashByValue
  refine wpAny_bind (wpAny_specialOf (⟨o, g, c⟩ : s.TypeIs (.ref a) "tuple") F.slot_tuple_hash.lookup ?_)
  show wpAny _ _ ((seqItems? (.ref a)) >>= _) _ _ s
  refine wpAny_bind (wpAny_seqItems g d ?_)
  refine wpAny_bind ?_
  show wpAny _ _ (forIn vs (_, _) _) _ _ s
  rw [← Array.forIn_toList]
  refine wpAny_forIn_list _ (fun l r s' => (r.1 = none ∧ s' = s) ∧ ∀ v ∈ l, ByVal P w n s v) _ ?_ ?_ _ _ ⟨⟨rfl, rfl⟩, all⟩
  · rintro v l r s' ⟨⟨hr, rfl⟩, hl⟩
    refine wpAny_bind (hl v List.mem_cons_self _ _ _ fun b => ?_)
    cases b
    · simp only [Bool.not_false, if_true]
      exact wpAny_pure (wpAny_pure (q false))
    · simp only [Bool.not_true, Bool.false_eq_true, if_false]
      exact wpAny_pure ⟨⟨rfl, rfl⟩, fun u hu => hl u (List.mem_cons_of_mem _ hu)⟩
  · rintro ⟨r1, r2⟩ s' ⟨⟨hr, rfl⟩, _⟩
    obtain rfl : r1 = none := hr
    exact wpAny_pure (q true)
mutual
theorem noCls_key : ∀ (k : NestedKey) (v : Value) (n : Nat) (s : Shared), NestedIs s.heap k v → k.depth ≤ n → NoCls P w n s v
  | .none, _, n, s, x, _ => by cases x; exact .flat rfl
  | .num i, _, n, s, x, _ => by cases x <;> exact .flat rfl
  | .text y, _, n, s, x, _ => by cases x; exact .flat rfl
  | .tup ks, _, 0, s, x, h => by simp [NestedKey.depth] at h
  | .tup ks, _, n + 1, s, x, h => by
    cases x with
    | tup g c d all => exact .tup g c d (noCls_keys ks _ n s all (by simp only [NestedKey.depth] at h; omega))
theorem noCls_keys : ∀ (ks : List NestedKey) (vs : List Value) (n : Nat) (s : Shared), NestedAll s.heap ks vs → NestedKey.depthAll ks ≤ n → ∀ v ∈ vs, NoCls P w n s v
  | [], _, n, s, x, _, v, hv => by cases x; cases hv
  | k :: ks, _, n, s, x, h, v, hv => by
    cases x with
    | cons x1 x2 =>
      simp only [NestedKey.depthAll] at h
      rcases List.mem_cons.mp hv with rfl | hv
      · exact noCls_key k _ n s x1 (by omega)
      · exact noCls_keys ks _ n s x2 (by omega) v hv
end
mutual
theorem byVal_key : ∀ (k : NestedKey) (v : Value) (n : Nat) (s : Shared), NestedIs s.heap k v → k.depth ≤ n → ByVal P w n s v
  | .none, _, n, s, x, _ => by cases x; exact .flat ⟨true, by cases n <;> rfl⟩
  | .num i, _, n, s, x, _ => by cases x <;> exact .flat ⟨true, by cases n <;> rfl⟩
  | .text y, _, n, s, x, _ => by cases x; exact .flat ⟨false, by cases n <;> rfl⟩
  | .tup ks, _, 0, s, x, h => by simp [NestedKey.depth] at h
  | .tup ks, _, n + 1, s, x, h => by
    cases x with
    | tup g c d all => exact .tup g c d (byVal_keys ks _ n s all (by simp only [NestedKey.depth] at h; omega))
theorem byVal_keys : ∀ (ks : List NestedKey) (vs : List Value) (n : Nat) (s : Shared), NestedAll s.heap ks vs → NestedKey.depthAll ks ≤ n → ∀ v ∈ vs, ByVal P w n s v
  | [], _, n, s, x, _, v, hv => by cases x; cases hv
  | k :: ks, _, n, s, x, h, v, hv => by
    cases x with
    | cons x1 x2 =>
      simp only [NestedKey.depthAll] at h
      rcases List.mem_cons.mp hv with rfl | hv
      · exact byVal_key k _ n s x1 (by omega)
      · exact byVal_keys ks _ n s x2 (by omega) v hv
end
end
section
variable {P : Program} {w : World} {A : Around} {E : Value → Shared → Prop} {s : Shared}
abbrev NIs (P : Program) (w : World) (h : Heap) (k : NestedKey) (a : Addr) : Prop := (nestedKind P w).is h k a
abbrev Nh (w : World) (k : NestedKey) : Int := NestedKey.hash w k
/-- a search among such keys shows nothing -/
theorem seen_key {k : NestedKey} {b : Addr} {Q : Bool → Shared → Prop} (hk : NIs P w s.heap k b) {ys : List Value} (hy : ∀ y ∈ ys, ∃ k' c, y = Value.ref c ∧ NIs P w s.heap k' c) (q : Q false s) : wpAny (model P w) A (searchCouldBeSeen (.ref b) ys) Q E s := by
  unfold searchCouldBeSeen
  refine wpAny_bind ?_
  refine wpAny_forIn_list _ (fun l r s' => (r.1 = none ∧ s' = s) ∧ ∀ y ∈ l, ∃ k' c, y = Value.ref c ∧ NIs P w s.heap k' c) _ ?_ ?_ _ _ ⟨⟨rfl, rfl⟩, hy⟩
  · rintro v l r s' ⟨⟨hr, rfl⟩, hl⟩
    obtain ⟨k', c, rfl, hc⟩ := hl v List.mem_cons_self
    have hl' : ∀ y ∈ l, ∃ k' c, y = Value.ref c ∧ NIs P w s'.heap k' c := fun u hu => hl u (List.mem_cons_of_mem _ hu)
    dsimp only
    by_cases hv : (b == c || (carriedByValue (.ref b) && carriedByValue (.ref c))) = true
    · exact wp_if_pos hv (wpAny_pure ⟨⟨rfl, rfl⟩, hl'⟩)
    refine wp_if_neg hv (wpAny_bind ((nestedKind P w).quiet hk ?_))
    simp only [Bool.not_true, Bool.false_eq_true, if_false]
    refine wpAny_bind ((nestedKind P w).quiet hc ?_)
    simp only [Bool.not_true, Bool.false_eq_true, if_false]
    refine wpAny_bind (noCls_key k _ 8 s' hk.1 hk.2 _ _ _ ?_)
    simp only [Bool.false_eq_true, if_false]
    refine wpAny_bind (noCls_key k' _ 8 s' hc.1 hc.2 _ _ _ ?_)
    simp only [Bool.false_eq_true, if_false]
    exact wpAny_pure ⟨⟨rfl, rfl⟩, hl'⟩
  · rintro ⟨r1, r2⟩ s' ⟨⟨hr, rfl⟩, _⟩
    obtain rfl : r1 = none := hr
    exact wpAny_pure q
/-! ### the set -/
abbrev NL := List (Addr × NestedKey)
def nRows (w : World) (L : NL) : List (Int × Value) := L.map fun p => (Nh w p.2, Value.ref p.1)
structure NSet (P : Program) (w : World) (h : Heap) (a : Addr) (L : NL) (es : Array (Int × Value)) (ep : Nat) (t : SetTable) : Prop where
  ob : ∃ o, h.get? a = some o ∧ o.ExactSet ∧ o.data = .set es ep t
  rows : es.toList = nRows w L
  tab : TabG t (L.map fun p => Nh w p.2)
  nd : (L.map (·.2)).Nodup
  key : ∀ p ∈ L, NIs P w h p.2 p.1
  led : w.params.followText "set-order" = true ∨ t.led = true
  room : L.length * 5 < t.mask * 3
  few : L.length ≤ 300
variable {a : Addr} {L : NL} {es : Array (Int × Value)} {ep : Nat} {t : SetTable}
theorem NSet.size (R : NSet P w s.heap a L es ep t) : es.size = L.length := by
  rw [← Array.length_toList, R.rows]; exact List.length_map _
theorem NSet.fit (R : NSet P w s.heap a L es ep t) : t.fits es.size = true := by
  have h1 := R.tab.sz; have h2 := R.size; have h3 := R.room
  rw [List.length_map] at h1
  unfold SetTable.fits SetTable.fill
  rw [R.tab.dm, Bool.and_eq_true, beq_iff_eq, decide_eq_true_eq]
  exact ⟨by omega, by show t.place.size + 0 ≤ t.mask; omega⟩
theorem NSet.at (R : NSet P w s.heap a L es ep t) {i : Nat} {p : Addr × NestedKey} (h : L[i]? = some p) : es[i]? = some (Nh w p.2, Value.ref p.1) := by
  rw [← Array.getElem?_toList, R.rows]; unfold nRows; rw [List.getElem?_map, h]; rfl
/-- the k-th state of the way of h -/
abbrev wSt (m : Nat) (h : Int) (k : Nat) : SetTable.Probe := nth m (runAt m (SetTable.bits h % (m + 1)) (SetTable.bits h)) k
theorem wSt_add (m : Nat) (h : Int) (c q : Nat) : nth m (wSt m h c) q = wSt m h (c + q) := (nth_add m c _ q).symm
theorem nth_nodummy (m : Nat) : ∀ (n : Nat) (p : SetTable.Probe), p.dummy = none → (nth m p n).dummy = none
  | 0, _, h => h
  | n + 1, p, h => nth_nodummy m n (adv m p) (by unfold adv; split <;> exact h)
/-- the search from the c-th state of the way on -/
theorem nsearch (R : NSet P w s.heap a L es ep t) {x : Addr} {k : NestedKey} (hx : NIs P w s.heap k x) (hu : A.units + 8 < cLine) {K : Nat} (kf : K < 10 * SetTable.turns t.mask) (k0 : way t.mask (Nh w k) K ∉ t.place.toList) (kb : ∀ c, c < K → way t.mask (Nh w k) c ∈ t.place.toList)
    {Q : SetFound → Shared → Prop} (yes : k ∈ L.map (·.2) → Q (.there none) s) (no : k ∉ L.map (·.2) → Q (.free (way t.mask (Nh w k) K) false) s) :
    ∀ (f c : Nat) (st : Option SetTable.Probe), st.getD (t.probeStart (Nh w k)) = wSt t.mask (Nh w k) c → c ≤ K → K - c < f → (∀ (i : Nat) p, L[i]? = some p → p.2 = k → ∃ c', c ≤ c' ∧ c' < K ∧ t.place.toList[i]? = some (way t.mask (Nh w k) c')) → wpAny (model P w) A (setSearchFrom a (.ref x) (Nh w k) true f st) Q E s
  | 0, _, _, _, _, z, _ => absurd z (Nat.not_lt_zero _)
  | f + 1, c, st, e0, hc, hf, wh => by
    obtain ⟨o, ho, hex, hd⟩ := R.ob
    have gw : ¬ t.gaveWay = true := by unfold SetTable.gaveWay; rw [oddG R.tab.mok]; decide
    rw [setSearchFrom_succ]
    refine wpAny_bind (wpAny_setState_of ho hd R.fit ?_); dsimp only
    refine wp_if_neg gw ?_
    try refine wpAny_bind (wpAny_pure ?_)
    have ej : ∀ q, (nth t.mask (wSt t.mask (Nh w k) c) q).j = way t.mask (Nh w k) (c + q) := fun q => congrArg SetTable.Probe.j (wSt_add _ _ c q)
    have ek : c + (K - c) = K := by omega
    have go := go_spec t R.tab.ris R.tab.dm (fun i => (es[i]?.map (·.1)).getD 0) (Nh w k) (10 * SetTable.turns t.mask) (K - c) (wSt t.mask (Nh w k) c) (nth_nodummy _ c _ rfl) (by omega) (fun q hq => (ej q).symm ▸ kb (c + q) (by omega)) (by rw [ej, ek]; exact k0)
    have hAt : ∀ (i : Nat) p, L[i]? = some p → (es[i]?.map (·.1)).getD 0 = Nh w p.2 := fun i p hp => by rw [R.at hp]; rfl
    rcases go with ⟨q, i, hq, hi, hh, hno, hpr⟩ | ⟨hno, hpr⟩
    · have hpr' : t.probe (fun i => (es[i]?.map (·.1)).getD 0) (Nh w k) (st.getD (t.probeStart (Nh w k))) = some (.candidate (way t.mask (Nh w k) (c + q)) i (wSt t.mask (Nh w k) (c + (q + 1)))) := by
        rw [e0, ← ej, ← wSt_add]; exact hpr
      rw [hpr']; dsimp only
      rw [ej] at hi
      have il : i < L.length := by
        have h1 := (List.getElem?_eq_some_iff.mp hi).1
        have h2 := R.tab.sz
        rw [List.length_map] at h2; rw [Array.length_toList] at h1
        omega
      obtain ⟨p, hp⟩ : ∃ p, L[i]? = some p := ⟨_, List.getElem?_eq_getElem il⟩
      have pm : p ∈ L := List.mem_of_getElem? hp
      have later : wpAny (model P w) A (searchRest a (.ref x) (Nh w k) true f es t (way t.mask (Nh w k) (c + q)) i (wSt t.mask (Nh w k) (c + (q + 1)))) Q E s := by
        unfold searchRest
        rw [R.at hp]; dsimp only
        refine wpAny_bind (wpAny_holding ((nestedKind P w).eqBool hu (R.key p pm) hx (wpAny_bind (m := setState a) (wpAny_setState_of ho hd R.fit ?_)))); dsimp only
        by_cases hkk : p.2 = k
        · exact wp_if_pos (by simp [hkk]) (wpAny_pure (yes (List.mem_map.mpr ⟨p, pm, hkk⟩)))
        refine wp_if_neg (by simp [hkk]) ?_
        try refine wpAny_bind (wpAny_pure ?_)
        rw [sameMem]; dsimp only
        have sl : t.slot (way t.mask (Nh w k) (c + q)) = .live i := slot_live R.tab.ris hi
        simp only [if_true, sl, R.at hp]
        refine wpAny_bind (wpAny_isSame_ref_self (wpAny_bind (wpAny_pure ?_))); simp only [if_true]
        refine wp_if_neg (by simp [hkk]) ?_
        refine nsearch R hx hu kf k0 kb yes no f (c + (q + 1)) _ rfl (by omega) (by omega) fun i0 p0 h0 hk0 => ?_
        obtain ⟨c', a1, a2, a3⟩ := wh i0 p0 h0 hk0
        refine ⟨c', Classical.byContradiction fun lt => ?_, a2, a3⟩
        by_cases z : c' < c + q
        · exact hno (c' - c) i0 (by omega) (by rw [ej, show c + (c' - c) = c' by omega]; exact a3) ((hAt i0 p0 h0).trans (congrArg (Nh w) hk0))
        · obtain rfl : c' = c + q := by omega
          have s0 := slot_live R.tab.ris a3
          rw [sl] at s0
          injection s0 with s0
          rw [← s0, hp] at h0
          exact hkk ((congrArg Prod.snd (Option.some.inj h0)).trans hk0)
      by_cases hl : t.led = true
      · refine wp_if_neg (by simp [hl]) ?_
        try refine wpAny_bind (wpAny_pure ?_)
        exact later
      refine wp_if_pos (by simp [hl]) (wpAny_bind (seen_key hx (fun y hy => ?_) ?_))
      · obtain ⟨e, he, ee⟩ := List.mem_map.mp hy
        have he1 : e ∈ es ∧ e.1 = Nh w k := by simpa using he
        have he2 : e ∈ es.toList := by simpa using he1.1
        rw [R.rows] at he2
        obtain ⟨p2, hp2, e2⟩ := List.mem_map.mp he2
        exact ⟨p2.2, p2.1, by rw [← ee, ← e2], R.key p2 hp2⟩
      · refine wp_if_neg (by decide) ?_
        try refine wpAny_bind (wpAny_pure ?_)
        exact later
    · have hpr' : t.probe (fun i => (es[i]?.map (·.1)).getD 0) (Nh w k) (st.getD (t.probeStart (Nh w k))) = some (.empty (way t.mask (Nh w k) K) none) := by
        have e2 : way t.mask (Nh w k) K = (nth t.mask (wSt t.mask (Nh w k) c) (K - c)).j := by rw [ej, ek]
        rw [e0, e2]; exact hpr
      rw [hpr']; dsimp only
      refine wpAny_pure (no fun hm => ?_)
      obtain ⟨p0, h0, hk0⟩ := List.mem_map.mp hm
      obtain ⟨i0, h00⟩ := List.mem_iff_getElem?.mp h0
      obtain ⟨c', a1, a2, a3⟩ := wh i0 p0 h00 hk0
      exact hno (c' - c) i0 (by omega) (by rw [ej, show c + (c' - c) = c' by omega]; exact a3) ((hAt i0 p0 h00).trans (congrArg (Nh w) hk0))
/-- .. as adding asks for it -/
theorem nsearch_at (R : NSet P w s.heap a L es ep t) {x : Addr} {k : NestedKey} (hx : NIs P w s.heap k x) (hu : A.units + 8 < cLine) {Q : SetFound → Shared → Prop} (yes : k ∈ L.map (·.2) → Q (.there none) s)
    (no : ∀ K, k ∉ L.map (·.2) → way t.mask (Nh w k) K ∉ t.place.toList → (∀ c, c < K → way t.mask (Nh w k) c ∈ t.place.toList) → Q (.free (way t.mask (Nh w k) K) false) s) : wpAny (model P w) A (setSearch a (.ref x) (Nh w k) true) Q E s := by
  have hr := R.room
  obtain ⟨K, kf, k0, kb⟩ := R.tab.first (by rw [List.length_map]; omega) (Nh w k)
  have big : 10 * SetTable.turns t.mask ≤ 9000 := by have := leG R.tab.mok; unfold SetTable.turns; omega
  unfold setSearch
  refine nsearch R hx hu kf k0 kb yes (fun hn => no K hn k0 kb) 100000 0 none rfl (Nat.zero_le _) (by omega) fun i p hp hk => ?_
  have hi : (L.map fun p => Nh w p.2)[i]? = some (Nh w k) := by rw [List.getElem?_map, hp, ← hk]; rfl
  have il : i < t.place.toList.length := by
    have h1 := (List.getElem?_eq_some_iff.mp hp).1
    have h2 := R.tab.sz
    rw [List.length_map] at h2; rw [Array.length_toList]
    omega
  obtain ⟨c, hc, e⟩ := R.tab.before k0 hi (List.getElem?_eq_getElem il)
  exact ⟨c, Nat.zero_le _, hc, by rw [List.getElem?_eq_getElem il, e]⟩
end
end Dl
end
section
/-! sets of nested keys: adding, set(xs) -/
namespace Dl
open PySem PySem.Spec PyProof.Rows L2
section
variable {P : Program} {w : World} {A : Around} {E : Value → Shared → Prop} {s : Shared}
theorem nis_same {h h' : Heap} {k : NestedKey} {a b : Addr} {o : Obj} {es : Array (Int × Value)} {ep : Nat} {t : SetTable} (hb : NIs P w h k b) (ho : h.get? a = some o) (hd : o.data = .set es ep t) (hs : Heap.SameBut a h h') : NIs P w h' k b :=
  ⟨NestedIs.at (fun c oc vs n g d => (hs.2 c fun e => by
    subst e
    rw [ho] at g; cases g
    rw [hd] at d; cases d).trans g) k _ hb.1, hb.2⟩
theorem nis_keep {h h' : Heap} {k : NestedKey} {b : Addr} (x : NIs P w h k b) (hk : ∀ c o, h.get? c = some o → h'.get? c = some o) : NIs P w h' k b := ⟨NestedIs.at (fun c o _ _ g _ => hk c o g) k _ x.1, x.2⟩
theorem nrows_put (L : NL) (p : Nat) (x : Addr) (k : NestedKey) : nRows w (L.take p ++ (x, k) :: L.drop p) = (nRows w L).take p ++ (Nh w k, Value.ref x) :: (nRows w L).drop p := by
  unfold nRows; rw [List.map_append, List.map_cons, List.map_take, List.map_drop]
theorem filt_range {α : Type} (L : List α) : (List.range L.length).filterMap (fun i => L[i]?) = L := by
  have key : ∀ n, n ≤ L.length → (List.range n).filterMap (fun i => L[i]?) = L.take n := by
    intro n
    induction n with
    | zero => intro _; rfl
    | succ n ih =>
      intro hn
      rw [List.range_succ, List.filterMap_append, ih (by omega), List.take_succ, List.getElem?_eq_getElem hn, List.filterMap_cons_some (List.getElem?_eq_getElem hn)]
      rfl
  rw [key _ (Nat.le_refl _), List.take_length]
/-- the rows in another order -/
theorem nrows_order (L : NL) (es : Array (Int × Value)) (od : Array Nat) (hr : es.toList = nRows w L) (hp : od.toList.Perm (List.range L.length)) :
    ∃ L2 : NL, (od.filterMap (es[·]?)).toList = nRows w L2 ∧ L2.Perm L ∧ (L2.map fun p => Nh w p.2) = od.toList.map fun i => (es.map (·.1)).getD i 0 := by
  have at' : ∀ i (h : i < L.length), es[i]? = some (Nh w (L[i]).2, Value.ref (L[i]).1) := fun i h => by
    rw [← Array.getElem?_toList, hr]; unfold nRows
    rw [List.getElem?_map, List.getElem?_eq_getElem h]; rfl
  have key : ∀ l : List Nat, (∀ i ∈ l, i < L.length) → l.filterMap (fun i => es[i]?) = nRows w (l.filterMap fun i => L[i]?) ∧ ((l.filterMap fun i => L[i]?).map fun p => Nh w p.2) = l.map fun i => (es.map (·.1)).getD i 0 := by
    intro l
    induction l with
    | nil => exact fun _ => ⟨rfl, rfl⟩
    | cons i l ih =>
      intro hl
      have hi := hl i List.mem_cons_self
      obtain ⟨e1, e2⟩ := ih fun j hj => hl j (List.mem_cons_of_mem _ hj)
      rw [List.filterMap_cons_some (at' i hi), List.filterMap_cons_some (List.getElem?_eq_getElem hi), e1]
      refine ⟨rfl, ?_⟩
      rw [List.map_cons, List.map_cons, e2]
      congr 1
      have e5 : (es.map (·.1))[i]? = some (Nh w (L[i]).2) := by rw [Array.getElem?_map, at' i hi]; rfl
      simp [Array.getD_eq_getD_getElem?, e5]
  obtain ⟨e1, e2⟩ := key od.toList fun i hi => List.mem_range.mp (hp.mem_iff.mp hi)
  refine ⟨_, by first | (rw [Array.toList_filterMap]; exact e1) | simpa using e1, ?_, e2⟩
  have h1 := hp.filterMap fun i => L[i]?
  rwa [filt_range] at h1
variable {a : Addr} {L : NL} {es : Array (Int × Value)} {ep : Nat} {t : SetTable}
/-- laid anew, larger -/
theorem nrelay {o : Obj} (ho : s.heap.get? a = some o) (hex : o.ExactSet) (hd : o.data = .set es ep t) (hr : es.toList = nRows w L) (sz : t.place.size = es.size) (dm : t.dummies = #[]) (fl : es.size ≤ t.mask) (nd : (L.map (·.2)).Nodup) (kk : ∀ p ∈ L, NIs P w s.heap p.2 p.1)
    (ld : w.params.followText "set-order" = true ∨ t.led = true) (few : L.length ≤ 300) {wanted M : Nat} (hw : SetTable.sizeAbove wanted - 1 = M) (hM : MaskG M) (h128 : SetTable.sizeAbove wanted ≤ 512) (hn : L.length * 5 < M * 3) {Q : Unit → Shared → Prop}
    (hQ : ∀ h' L' es' ep' t', Heap.SameBut a s.heap h' → NSet P w h' a L' es' ep' t' → L'.Perm L → Q () { s with heap := h' }) : wpAny (model P w) A (setRelay a wanted) Q E s := by
  have hl : es.size = L.length := by rw [← Array.length_toList, hr]; exact List.length_map _
  have fit : t.fits es.size = true := by
    unfold SetTable.fits SetTable.fill
    rw [dm, Bool.and_eq_true, beq_iff_eq, decide_eq_true_eq]
    exact ⟨sz, by show t.place.size + 0 ≤ t.mask; omega⟩
  obtain ⟨t', od, e, hp, T, em, el⟩ := relaidG t (hs := es.map (·.1)) (wanted := wanted) hw hM (by rw [Array.size_map, hl]; omega)
  rw [Array.size_map, hl] at hp
  obtain ⟨L2, r1, r2, r3⟩ := nrows_order L es od hr hp
  rw [← r3] at T
  have s2 : (od.filterMap (es[·]?)).size = es.size := by
    rw [← Array.length_toList, r1, hl, ← r2.length_eq]; exact List.length_map _
  rw [setRelay_eq]
  refine wpAny_bind (wpAny_setState_of ho hd fit ?_); dsimp only
  refine wp_if_neg (by rw [sizeLine_eq]; omega) ?_
  try refine wpAny_bind (wpAny_pure ?_)
  rw [e]; dsimp only
  refine wpAny_bind (wp_if_neg (by rw [s2]; simp) ?_)
  try refine wpAny_bind (wpAny_pure ?_)
  refine wpAny_pure ?_
  dsimp only
  refine wpAny_storeSet_of ho hd ?_ (by rw [s2, hl, sizeLine_eq]; omega)
  have sb : Heap.SameBut a s.heap (s.heap.update a (Obj.putSet (od.filterMap (es[·]?)) t')) := Heap.SameBut.update ..
  refine hQ _ L2 _ (ep + 1) t' sb ⟨⟨_, store_at ho hd, ⟨hex.1, hex.2.1, hex.2.2⟩, rfl⟩, r1, T, (r2.map (·.2)).nodup_iff.mpr nd, fun p hpm => nis_same (kk p (r2.mem_iff.mp hpm)) ho hd sb, by rw [el]; exact ld, by rw [r2.length_eq, em]; exact hn, by rw [r2.length_eq]; exact few⟩ r2
/-- a set with one more, its table put, before it is looked at how full it is -/
theorem nset_store (R : NSet P w s.heap a L es ep t) {x : Addr} {k : NestedKey} (hx : NIs P w s.heap k x) (hu : A.units + 8 < cLine) (few : L.length + 1 ≤ 300) {K : Nat} (new : k ∉ L.map (·.2)) (k0 : way t.mask (Nh w k) K ∉ t.place.toList) (kb : ∀ c, c < K → way t.mask (Nh w k) c ∈ t.place.toList)
    {Q : Bool → Shared → Prop} (hQ : ∀ h' L' es' ep' t', Heap.SameBut a s.heap h' → NSet P w h' a L' es' ep' t' → L'.Perm ((x, k) :: L) → Q true { s with heap := h' }) (b : Bool) {pt : SetTable × Nat} (hpt : t.put (way t.mask (Nh w k) K) = pt) {t1 : SetTable} (ht1 : t1 = if b = true then pt.1 else { pt.1 with plain := false }) :
    wpAny (model P w) A (do
      storeSet a (SetTable.insertAt es pt.2 (Nh w k, Value.ref x)) t1
      if !false && t1.tooFull then setRelay a (SetTable.grown (es.size + 1))
      return true) Q E s := by
  obtain ⟨o, ho, hex, hd⟩ := R.ob
  have hsl := R.size
  have hroom := R.room
  obtain ⟨q1, q2, q3, q4, q5, q9⟩ := R.tab.put k0 kb
  rw [hpt] at q1 q3 q4 q5 q9
  have f1 : t1.place = pt.1.place ∧ t1.mask = pt.1.mask ∧ t1.dummies = pt.1.dummies ∧ t1.led = pt.1.led ∧ t1.fill = pt.1.fill := by subst ht1; cases b <;> exact ⟨rfl, rfl, rfl, rfl, rfl⟩
  obtain ⟨f1, f2, f3, f4, f5⟩ := f1
  obtain ⟨pt1, pt2⟩ := pt
  dsimp only at q1 q3 q4 q5 q9 f1 f2 f3 f4 f5 ⊢
  subst q1
  have hin : (SetTable.insertAt es (SetTable.below t.place (way t.mask (Nh w k) K)) (Nh w k, Value.ref x)).toList = nRows w (L.take (SetTable.below t.place (way t.mask (Nh w k) K)) ++ (x, k) :: L.drop (SetTable.below t.place (way t.mask (Nh w k) K))) := by
    rw [SetTable.toList_insertAt, nrows_put, R.rows]
  generalize SetTable.below t.place (way t.mask (Nh w k) K) = pp at q2 q3 hin ⊢
  have pm := put_perm L pp (x, k)
  have hhs : (L.take pp ++ (x, k) :: L.drop pp).map (fun p => Nh w p.2) = (L.map fun p => Nh w p.2).take pp ++ Nh w k :: (L.map fun p => Nh w p.2).drop pp := by
    rw [List.map_append, List.map_cons, List.map_take, List.map_drop]
  rw [← hhs] at q3
  have nd1 : ((L.take pp ++ (x, k) :: L.drop pp).map (·.2)).Nodup := (pm.map (·.2)).nodup_iff.mpr (by rw [List.map_cons]; exact List.nodup_cons.mpr ⟨new, R.nd⟩)
  generalize SetTable.insertAt es pp (Nh w k, Value.ref x) = es1 at hin ⊢
  generalize L.take pp ++ (x, k) :: L.drop pp = L1 at pm q3 nd1 hin
  have len1 : L1.length = L.length + 1 := pm.length_eq
  have hes : es1.size = L.length + 1 := by rw [← Array.length_toList, hin, ← len1]; exact List.length_map _
  have T1 : TabG t1 (L1.map fun p => Nh w p.2) := ⟨by rw [f1]; exact q3.ris, by rw [f3]; exact q3.dm, by rw [f1]; exact q3.sz, by rw [f2]; exact q3.mok, by rw [f1, f2]; exact q3.bd, by rw [f1, f2]; exact q3.reach⟩
  refine wpAny_bind (wpAny_storeSet_of ho hd ?_ (by rw [hes, sizeLine_eq]; omega))
  have sb : Heap.SameBut a s.heap (s.heap.update a (Obj.putSet es1 t1)) := Heap.SameBut.update ..
  have ho1 := store_at (es' := es1) (t' := t1) ho hd
  generalize s.heap.update a (Obj.putSet es1 t1) = h1 at sb ho1 ⊢
  have kk1 : ∀ p ∈ L1, NIs P w h1 p.2 p.1 := fun p hp => by
    rcases List.mem_cons.mp (pm.mem_iff.mp hp) with e | hp
    · rw [e]; exact nis_same hx ho hd sb
    · exact nis_same (R.key p hp) ho hd sb
  have ld1 : w.params.followText "set-order" = true ∨ t1.led = true := by rw [f4, q5]; exact R.led
  have full : t1.tooFull = decide ((L.length + 1) * 5 ≥ t.mask * 3) := by
    unfold SetTable.tooFull
    rw [f5, q9, f2, q4, List.length_map]
  have em1 : t1.mask = t.mask := by rw [f2, q4]
  by_cases hf : (L.length + 1) * 5 ≥ t.mask * 3
  · have cnd : (!false && t1.tooFull) = true := by rw [full]; simp [hf]
    rw [if_pos cnd, hsl]
    refine wpAny_bind ?_
    have sz1 : t1.place.size = es1.size := by
      have h := T1.sz
      rw [List.length_map, len1] at h; rw [h, hes]
    have two : (t.mask = 7 ∧ L.length = 4) ∨ (t.mask = 31 ∧ L.length = 18) ∨ (t.mask = 127 ∧ L.length = 76) := by
      rcases R.tab.mok with (e | e | e) | e
      · exact .inl ⟨e, by omega⟩
      · exact .inr (.inl ⟨e, by omega⟩)
      · exact .inr (.inr ⟨e, by omega⟩)
      · exfalso; omega
    have go : ∀ M, SetTable.sizeAbove (SetTable.grown (L.length + 1)) - 1 = M → MaskG M → SetTable.sizeAbove (SetTable.grown (L.length + 1)) ≤ 512 → (L.length + 1) * 5 < M * 3 → wpAny (model P w) A (setRelay a (SetTable.grown (L.length + 1))) (fun _ s' => wpAny (model P w) A (pure true) Q E s') E { s with heap := h1 } := fun M g1 g2 g3 g4 =>
      nrelay (s := { s with heap := h1 }) ho1 ⟨hex.1, hex.2.1, hex.2.2⟩ rfl hin sz1 T1.dm (by rw [hes, em1]; omega) nd1 kk1 ld1 (by omega) g1 g2 g3 (by rw [len1]; exact g4) fun h2 L2 es2 ep2 t2 sb2 R2 pm2 => wpAny_pure (hQ h2 L2 es2 ep2 t2 (sb.trans sb2) R2 (pm2.trans pm))
    rcases two with ⟨_, e2⟩ | ⟨_, e2⟩ | ⟨_, e2⟩
    · exact go 31 (by rw [e2, size_20]) (.inl (.inr (.inl rfl))) (by rw [e2, size_20]; decide) (by omega)
    · exact go 127 (by rw [e2, size_76]) (.inl (.inr (.inr rfl))) (by rw [e2, size_76]; decide) (by omega)
    · exact go 511 (by rw [e2, size_308]) (.inr rfl) (by rw [e2, size_308]; decide) (by omega)
  · have cnd : ¬ (!false && t1.tooFull) = true := by rw [full]; simp; omega
    rw [if_neg cnd]
    refine wpAny_bind (wpAny_pure (wpAny_pure ?_))
    exact hQ h1 L1 es1 (ep + 1) t1 sb ⟨⟨_, ho1, ⟨hex.1, hex.2.1, hex.2.2⟩, rfl⟩, hin, T1, nd1, kk1, ld1, by rw [em1, len1]; omega, by omega⟩ pm
/-- s.add(x) -/
theorem nadd (R : NSet P w s.heap a L es ep t) {x : Addr} {k : NestedKey} (hx : NIs P w s.heap k x) (hu : A.units + 8 < cLine) (few : k ∉ L.map (·.2) → L.length + 1 ≤ 300) {Q : Bool → Shared → Prop}
    (hQ : ∀ b h' L' es' ep' t', Heap.SameBut a s.heap h' → NSet P w h' a L' es' ep' t' → (k ∈ L.map (·.2) → L' = L) → (k ∉ L.map (·.2) → L'.Perm ((x, k) :: L)) → Q b { s with heap := h' }) : wpAny (model P w) A (setAddHashed a (.ref x) (Nh w k)) Q E s := by
  obtain ⟨o, ho, hex, hd⟩ := R.ob
  unfold setAddHashed
  refine wpAny_holding ?_
  rw [show (100000 : Nat) = 99999 + 1 from rfl, setAddHashedIn_succ]
  refine wpAny_bind (wpAny_setState_of ho hd R.fit ?_); dsimp only
  refine wp_if_neg (by simp [byScan, Value.scannable]) ?_
  try refine wpAny_bind (wpAny_pure ?_)
  refine wpAny_bind (nsearch_at R hx hu (fun hm => ?_) fun K hm k0 kb => ?_)
  · dsimp only
    exact wpAny_pure (hQ false s.heap L es ep t (Heap.SameBut.refl a s.heap) R (fun _ => rfl) fun z => absurd hm z)
  · dsimp only
    refine wpAny_bind (wpAny_setState_of ho hd R.fit ?_); dsimp only
    have fin := fun b => nset_store (E := E) R hx hu (few hm) hm k0 kb (Q := Q) (fun h' L' es' ep' t' sb R' pm => hQ true h' L' es' ep' t' sb R' (fun z => absurd z hm) fun _ => pm) b (pt := t.put (way t.mask (Nh w k) K)) rfl rfl
    by_cases hp : (t.put (way t.mask (Nh w k) K)).1.plain = true
    · first
        | exact wp_if_pos hp (wpAny_bind (byVal_key k _ 8 s hx.1 hx.2 _ _ _ fun b => fin b))
        | exact wpAny_bind (wp_if_pos hp (byVal_key k _ 8 s hx.1 hx.2 _ _ _ fun b => fin b))
    · first
        | exact wp_if_neg hp (wpAny_bind (wpAny_pure (fin true)))
        | exact wpAny_bind (wp_if_neg hp (wpAny_pure (fin true)))
end
end Dl
end
section
/-! sets of nested keys: set(xs) of a list, its length -/
namespace Dl
open PySem PySem.Spec PyProof.Rows L2
/-- what is in the set behind the first i items -/
structure NGot (ks : NL) (i : Nat) (L : NL) : Prop where
  sub : ∀ p ∈ L, p ∈ ks.take i
  all : ∀ p ∈ ks.take i, p.2 ∈ L.map (·.2)
theorem take_snoc {α : Type} {l : List α} {i : Nat} {x : α} (h : l[i]? = some x) : l.take (i + 1) = l.take i ++ [x] := by rw [List.take_succ, h]; rfl
theorem NGot.zero (ks : NL) : NGot ks 0 [] := ⟨fun _ h => (nomatch h), fun p h => by simp at h⟩
theorem NGot.old {ks L : NL} {i : Nat} {x : Addr × NestedKey} (g : NGot ks i L) (h : ks[i]? = some x) (m : x.2 ∈ L.map (·.2)) : NGot ks (i + 1) L :=
  ⟨fun p hp => by rw [take_snoc h]; exact List.mem_append_left _ (g.sub p hp), fun p hp => by
    rw [take_snoc h] at hp
    rcases List.mem_append.mp hp with z | z
    · exact g.all p z
    · rw [List.mem_singleton.mp z]; exact m⟩
theorem NGot.new {ks L L' : NL} {i : Nat} {x : Addr × NestedKey} (g : NGot ks i L) (h : ks[i]? = some x) (pm : L'.Perm (x :: L)) : NGot ks (i + 1) L' :=
  ⟨fun p hp => by
    rw [take_snoc h]
    rcases List.mem_cons.mp (pm.mem_iff.mp hp) with rfl | z
    · exact List.mem_append_right _ (List.mem_singleton.mpr rfl)
    · exact List.mem_append_left _ (g.sub p z), fun p hp => by
    rw [(pm.map (·.2)).mem_iff, List.map_cons]
    rw [take_snoc h] at hp
    rcases List.mem_append.mp hp with z | z
    · exact List.mem_cons_of_mem _ (g.all p z)
    · rw [List.mem_singleton.mp z]; exact List.mem_cons_self⟩
/-- few: the keys are among at most 300 -/
abbrev NFew (ks : NL) : Prop := ∃ U : List NestedKey, U.length ≤ 300 ∧ ∀ p ∈ ks, p.2 ∈ U
theorem nd_sub_len {α : Type} [DecidableEq α] : ∀ {l u : List α}, l.Nodup → (∀ x ∈ l, x ∈ u) → l.length ≤ u.length
  | [], u, _, _ => Nat.zero_le _
  | x :: l, u, h, hs => by
    have hx := hs x List.mem_cons_self
    have h2 := List.nodup_cons.mp h
    have := nd_sub_len (u := u.erase x) h2.2 fun y hy => (List.mem_erase_of_ne (fun e => h2.1 (by rw [← e]; exact hy))).mpr (hs y (List.mem_cons_of_mem _ hy))
    rw [List.length_erase_of_mem hx] at this
    have := List.length_pos_of_mem hx
    rw [List.length_cons]; omega
section
variable {P : Program} {w : World} {A : Around} {E : Value → Shared → Prop} {s : Shared}
theorem NSet.keep {h h' : Heap} {a : Addr} {L : NL} {es : Array (Int × Value)} {ep : Nat} {t : SetTable} (R : NSet P w h a L es ep t) (ha : ∀ o, h.get? a = some o → h'.get? a = some o) (hk : ∀ p ∈ L, NIs P w h' p.2 p.1) : NSet P w h' a L es ep t := by
  obtain ⟨o, ho, r⟩ := R.ob
  exact ⟨⟨o, ha o ho, r⟩, R.rows, R.tab, R.nd, hk, R.led, R.room, R.few⟩
abbrev freshT (w : World) : SetTable := .fresh 0 0 (!w.params.followText "set-order")
abbrev freshO (w : World) : Obj := { cls := .type "set", dict := none, data := .set #[] 0 (freshT w) }
theorem nset_fresh {h : Heap} {a : Addr} (ho : h.get? a = some (freshO w)) : NSet P w h a [] #[] 0 (freshT w) :=
  ⟨⟨_, ho, ⟨rfl, rfl, rfl⟩, rfl⟩, rfl, ⟨List.Pairwise.nil, rfl, rfl, .inl (.inl rfl), fun x hx => (by cases hx), fun i h j hi => (by simp at hi)⟩, List.nodup_nil, fun p hp => (by cases hp), by
    show _ ∨ (!w.params.followText "set-order") = true
    cases w.params.followText "set-order"
    · exact .inr rfl
    · exact .inl rfl, by show 0 * 5 < 7 * 3; decide, by show 0 ≤ 300; decide⟩
/-- the loop of set.update -/
theorem nupdate {I : Addr} {fp wr : List Addr} {G : Array GenState → Array GenState → Prop} {n : Nat} {Pv : Nat → Value → Prop} {St : Nat → Shared → Prop} {R : Result → Shared → Prop} (W : WalksS P w A.in1 I fp wr G n Pv St) (S : Addr) (hSf : S ∉ fp) (ks : NL) (hn : n = ks.length) (few : NFew ks)
    (hval : ∀ i v, Pv i v → ∃ p, ks[i]? = some p ∧ v = .ref p.1) (h0 : Heap) (hk : ∀ p ∈ ks, NIs P w h0 p.2 p.1) (hS0 : h0.get? S = none) (hw0 : ∀ b ∈ wr, h0.get? b = none) (hu : A.in1.units + 8 < cLine) :
    ∀ (j i : Nat) (s : Shared), n - i = j → i ≤ n → St i s → (∀ b o, h0.get? b = some o → s.heap.get? b = some o) → (∃ L es ep t, NSet P w s.heap S L es ep t ∧ NGot ks i L) →
      (∀ s' L es ep t, Moved (S :: wr) G s s' → NSet P w s'.heap S L es ep t → NGot ks n L → (∀ b o, h0.get? b = some o → s'.heap.get? b = some o) → R (.ok (.ret .none)) s') → codeAny (model P w) A (.builtin "set.update.loop" ⟨[.ref S, .ref I], []⟩) R s := by
  have hSw : S ∉ wr := fun h => hSf (W.sub _ h)
  have wide : ∀ b ∈ wr, b ∈ S :: wr := fun b hb => List.mem_cons_of_mem _ hb
  have carry : ∀ {s s' : Shared}, Moved wr G s s' → (∀ b o, h0.get? b = some o → s.heap.get? b = some o) → ∀ b o, h0.get? b = some o → s'.heap.get? b = some o := fun hm kp b o e => hm.heap b o (fun hb => by rw [hw0 b hb] at e; cases e) (kp b o e)
  have inks : ∀ {i : Nat} {L : NL}, NGot ks i L → ∀ p ∈ L, p ∈ ks := fun g p hp => List.mem_of_mem_take (g.sub p hp)
  intro j
  induction j with
  | zero =>
    rintro i s hj hi st kp ⟨L, es, ep, t, hS, g⟩ hR
    obtain rfl : i = n := by omega
    refine codeAny_builtin F.entry_set_update_loop ?_
    rw [Around.under_plainId F.plain_set_update_loop _]
    show wpAny _ A.in1 ((pyNext (.ref I)) >>= _) _ _ s
    refine wpAny_bind (W.done s _ _ st fun s' hm => ?_)
    show wpAny _ A.in1 (ret (Value.none)) _ _ s'
    have kp' := carry hm kp
    exact wpAny_pure (hR s' L es ep t (hm.mono wide) (hS.keep (fun o e => hm.heap S o hSw e) fun p hp => nis_keep (hk p (inks g p hp)) kp') g kp')
  | succ j ih =>
    rintro i s hj hi st kp ⟨L, es, ep, t, hS, g⟩ hR
    have lt : i < n := by omega
    refine codeAny_builtin F.entry_set_update_loop ?_
    rw [Around.under_plainId F.plain_set_update_loop _]
    show wpAny _ A.in1 ((pyNext (.ref I)) >>= _) _ _ s
    refine wpAny_bind (W.item i s _ _ lt st fun v s' hP st' hm => ?_)
    obtain ⟨p, hp, rfl⟩ := hval i v hP
    have pm := List.mem_of_getElem? hp
    have kp' := carry hm kp
    have hS' : NSet P w s'.heap S L es ep t := hS.keep (fun o e => hm.heap S o hSw e) fun q hq => nis_keep (hk q (inks g q hq)) kp'
    have hx : NIs P w s'.heap p.2 p.1 := nis_keep (hk p pm) kp'
    show wpAny _ A.in1 ((holding [Value.ref p.1] (setAdd S (.ref p.1))) >>= _) _ _ s'
    refine wpAny_bind (wpAny_holding ?_)
    unfold setAdd
    refine wpAny_holding (wpAny_bind ((nestedKind P w).pyHash hu hx ?_))
    refine nadd (s := { s' with toks := s'.toks + p.2.draws }) hS' hx hu (fun hnew => ?_) fun b h' L' es' ep' t' sb hS2 c1 c2 => ?_
    · obtain ⟨U, hU, hs⟩ := few
      have := nd_sub_len (List.nodup_cons.mpr ⟨hnew, hS'.nd⟩) (u := U) fun x hx => by
        rcases List.mem_cons.mp hx with rfl | hx
        · exact hs p pm
        · obtain ⟨q, hq, rfl⟩ := List.mem_map.mp hx
          exact hs q (inks g q hq)
      rw [List.length_cons, List.length_map] at this
      omega
    have g' : NGot ks (i + 1) L' := by
      by_cases c : p.2 ∈ L.map (·.2)
      · rw [c1 c]; exact g.old hp c
      · exact g.new hp (c2 c)
    have kp2 : ∀ b o, h0.get? b = some o → h'.get? b = some o := fun b o e => (sb.2 b (fun z => by rw [z, hS0] at e; cases e)).trans (kp' b o e)
    refine wpAny_pure ⟨plainId_quiet F.plain_set_update_loop _, ih (i + 1) _ (by omega) lt (W.frame _ s' _ _ st' (Nat.le_add_right _ _) fun b hb o e => by rw [sb.2 b (fun h : b = S => hSf (h ▸ hb))]; exact e) kp2 ⟨L', es', ep', t', hS2, g'⟩ fun s'' L2 es2 ep2 t2 hm'' hS'' g'' kp'' => ?_⟩
    exact hR s'' L2 es2 ep2 t2 (Moved.trans W.gtrans ((hm.mono wide).then_heap (Nat.le_add_right _ _) fun b o hb e => by rw [sb.2 b (fun h : b = S => hb (h ▸ List.mem_cons_self))]; exact e) hm'') hS'' g'' kp''
/-- set(xs) of a list of such keys -/
theorem call_nset {l : Addr} {items : Array Value} (ks : NL) {Q : Value → Shared → Prop} (hh : A.handled = none) (hl : s.heap.IsList l items) (hit : items.toList = ks.map fun p => Value.ref p.1) (hk : ∀ p ∈ ks, NIs P w s.heap p.2 p.1) (few : NFew ks) (hu : A.units + 12 < cLine)
    (h : ∀ (h' : Heap) (tk : Nat) L es ep t, NSet P w h' s.heap.objs.size L es ep t → NGot ks ks.length L → (∀ b o, s.heap.get? b = some o → h'.get? b = some o) → Q (.ref s.heap.objs.size) { s with heap := h', toks := tk }) : wpAny (model P w) A (call (.type "set") [.ref l]) Q E s := by
  have isz : items.size = ks.length := by rw [← Array.length_toList, hit]; exact List.length_map _
  obtain ⟨c, tl, hmro⟩ := F.called_set.mro
  have hmade := F.called_set.made
  have hsub := F.called_set.sub
  refine wpAny_call (codeAny_of_tree ?_)
  show wpAny _ _ (callAny (.type "set") ⟨[.ref l], []⟩) _ _ _
  refine wpAny_pure ⟨Code.quiet_builtin _ (by decide +kernel), codeAny_builtin F.entry_type_call ?_⟩
  rw [Around.under_plain (weight_type_call_type "set" [.ref l] []) rfl]
  have h1 := F.called_set.notType
  have h2 := F.called_set.canCreate
  have hct := F.typeCall_set_1 (.ref l)
  repeat (any_goals (first | assumption | wp_step))
  refine codeAny_mono (code_set_led1 (.ref l) (E := E) (Q₁ := fun obj s₁ => obj = .ref s.heap.objs.size ∧ s₁ = { s with heap := s.heap.push (freshO w) }) ⟨rfl, rfl⟩) fun r s₁ hr => ?_
  cases r with
  | error e => exact hr
  | ok fl =>
    cases fl with
    | ret obj =>
      obtain ⟨rfl, rfl⟩ := hr
      have hS : (s.heap.push (freshO w)).get? s.heap.objs.size = some (freshO w) := Heap.get?_push_size _ rfl
      have hT : Shared.TypeIs { s with heap := s.heap.push (freshO w) } (.ref s.heap.objs.size) "set" := ⟨_, hS, rfl⟩
      have hli := F.called_set.init.lookup
      have hbi := F.called_set.init.bind (.ref s.heap.objs.size)
      repeat (any_goals (first | assumption | wp_step))
      refine codeAny_mono (codeAny_call_builtin (R := wants (fun r s₂ => r = .none ∧ ∃ h' tk L es ep t, s₂ = { s with heap := h', toks := tk } ∧ NSet P w h' s.heap.objs.size L es ep t ∧ NGot ks ks.length L ∧ (∀ b o, s.heap.get? b = some o → h'.get? b = some o)) E) F.called_set.init.plain F.entry_set_init (check_set_init_1 hT ?_)) fun r₂ s₂ hr₂ => ?_
      · obtain ⟨ol, hol, hcl, nl, hdl⟩ := hl
        obtain ⟨ocls, odict, odata, oslots⟩ := ol
        simp only at hcl hdl
        subst hcl; subst hdl
        have hol' : (s.heap.push (freshO w)).get? l = some { cls := .type "list", dict := odict, data := .seq items nl, slots := oslots } := Heap.get?_push_of_some _ hol
        have hsls := F.sub_list_set
        have hslf := F.sub_list_frozenset
        have hne : (Value.type "list" == Value.type "dict") = false := by decide
        have hl1 : (s.heap.push (freshO w)).IsList l items := ⟨_, hol', rfl, nl, rfl⟩
        unfold Builtin.«set.__init__» noKeywords Builtin.Frozenset.updateFrom
        generalize hPI : pyIter = PI
        wp_walk
        subst hPI
        refine wpAny_pyIter_list hl1 (wpAny_bind (wpAny_runValue ?_))
        have ltl : l < s.heap.objs.size := Heap.lt_size hol
        have hh3 : A.in1.in1.in1.handled = none := by simp [hh]
        have hneI : l ≠ (s.heap.push (freshO w)).objs.size := by rw [Heap.size_push]; exact Nat.ne_of_lt (Nat.lt_succ_of_lt ltl)
        have hSf : s.heap.objs.size ∉ [(s.heap.push (freshO w)).objs.size, l] := by
          rw [Heap.size_push]
          simp only [List.mem_cons, List.not_mem_nil, or_false, not_or]
          exact ⟨Nat.ne_of_lt (Nat.lt_succ_self _), Nat.ne_of_gt ltl⟩
        have hval : ∀ (i : Nat) (v : Value), items[i]? = some v → ∃ p, ks[i]? = some p ∧ v = .ref p.1 := fun i v hv => by
          have q : items.toList[i]? = some v := by rw [Array.getElem?_toList]; exact hv
          rw [hit, List.getElem?_map] at q
          cases hq : ks[i]? with
          | none => rw [hq] at q; cases q
          | some p => rw [hq] at q; exact ⟨p, rfl, (Option.some.inj q).symm⟩
        have beyond : ∀ b, s.heap.objs.size ≤ b → s.heap.get? b = none := fun b hb => by
          cases q : s.heap.get? b with
          | none => rfl
          | some o => exact absurd (Nat.lt_of_lt_of_le (Heap.lt_size q) hb) (Nat.lt_irrefl _)
        refine nupdate ((Walks.list hh3 _ l hneI items).toS) s.heap.objs.size hSf ks isz few hval s.heap hk (beyond _ (Nat.le_refl _)) (fun b hb => beyond b (by rw [List.mem_singleton.mp hb, Heap.size_push]; exact Nat.le_succ _)) (by simp only [Around.in1_units]; omega) (items.size - 0) 0 _ (by omega) (Nat.zero_le _)
          ⟨⟨_, Heap.get?_push_size _ rfl, rfl, rfl⟩, (hl1.push _)⟩ (fun b o e => Heap.get?_push_of_some _ (Heap.get?_push_of_some _ e)) ?hS0 ?hR
        case hS0 => exact ⟨[], #[], 0, _, nset_fresh (Heap.get?_push_of_some _ hS), NGot.zero ks⟩
        case hR =>
          intro s' L es ep t hm hS' g' kp
          obtain ⟨h', g2, d', tk', os'⟩ := s'
          obtain rfl : g2 = s.gens := hm.gens
          obtain rfl : d' = s.drawn := hm.drawn
          obtain rfl : os' = s.os := hm.os
          show wpAny _ _ _ _ _ _
          refine wpAny_pure ?_
          show wpAny _ _ (ret (Value.none)) _ _ _
          rw [isz] at g'
          exact wpAny_pure ⟨rfl, h', tk', L, es, ep, t, rfl, hS', g', kp⟩
      · cases r₂ with
        | error e => exact hr₂
        | ok fl₂ =>
          cases fl₂ with
          | ret r =>
            obtain ⟨rfl, h', tk, L, es, ep, t, rfl, hS', g', hk'⟩ := hr₂
            repeat (any_goals (first | assumption | wp_step))
            exact h _ _ _ _ _ _ hS' g' hk'
          | _ => exact hr₂.elim
    | _ => exact hr.elim
end
end Dl
end
section
/-! len(set(xs)), xs a list of tuples of any depth -/
namespace Dl
open PySem PySem.Spec PyProof.Rows L2
open Evl (Ex)
mutual
theorem nis_of {X : Cx} {pins : List (Addr × Obj)} {σ : L2.St} {G H : Hp} {s : Shared} (I : Inv X pins σ H s) (e : Ex G H) : ∀ (k : NestedKey) {v : V} {u : Value}, DP G v k.data → RelV v u → NestedIs s.heap k u
  | .none, _, _, h, r => by
    cases h
    cases r
    exact .none
  | .num i, _, _, h, r => by
    cases h
    obtain ⟨t, rfl⟩ := r
    exact .int _ _
  | .text x, _, _, h, r => by
    cases h
    obtain ⟨t, rfl⟩ := r
    exact .text _ _
  | .tup ks, _, _, h, r => by
    obtain ⟨a, xs, rfl, t, hs⟩ := dp_tup h
    cases r
    obtain ⟨its, rv, ⟨o, ho, hc, n, hd⟩, _⟩ := I.tuple (t.sq (K := X.K) e)
    exact .tup ho hc hd (nis_all I e ks hs (by simpa using rv))
theorem nis_all {X : Cx} {pins : List (Addr × Obj)} {σ : L2.St} {G H : Hp} {s : Shared} (I : Inv X pins σ H s) (e : Ex G H) : ∀ (ks : List NestedKey) {vs : List V} {us : List Value}, DPs G vs (NestedKey.datas ks) → Vals vs us → NestedAll s.heap ks us
  | [], _, _, h, r => by
    cases h
    cases r
    exact .nil
  | k :: ks, _, _, h, r => by
    cases h with
    | cons h1 h2 =>
      cases r with
      | cons r1 r2 => exact .cons (nis_of I e k h1 r1) (nis_all I e ks h2 r2)
end
def isTup : NestedKey → Bool
  | .tup _ => true
  | _ => false
/-- the places of a list of keys that are tuples -/
theorem nkeys_at {X : Cx} {pins : List (Addr × Obj)} {σ : L2.St} {G H : Hp} {s : Shared} (I : Inv X pins σ H s) (e : Ex G H) : ∀ (ks : List NestedKey) {vs : List V} {us : List Value}, (∀ k ∈ ks, isTup k = true ∧ k.depth ≤ 8) → DPs G vs (ks.map NestedKey.data) → Vals vs us → ∃ L : NL, L.map (·.2) = ks ∧ us = L.map (fun p => Value.ref p.1) ∧ ∀ p ∈ L, NIs X.prog X.w s.heap p.2 p.1
  | [], _, _, _, h, r => by
    cases h
    cases r
    exact ⟨[], rfl, rfl, fun _ h => nomatch h⟩
  | k :: ks, _, _, hk, h, r => by
    cases h with
    | cons h1 h2 =>
      cases r with
      | cons r1 r2 =>
        obtain ⟨L, e1, e2, e3⟩ := nkeys_at I e ks (fun k hk' => hk k (List.mem_cons_of_mem _ hk')) h2 r2
        obtain ⟨t1, t2⟩ := hk k List.mem_cons_self
        have n1 := nis_of I e k h1 r1
        cases k with
        | tup kk =>
          obtain ⟨a, xs, rfl, _, _⟩ := dp_tup h1
          cases r1
          refine ⟨(a, .tup kk) :: L, by rw [List.map_cons, e1], by rw [List.map_cons, e2], fun p hp => ?_⟩
          rcases List.mem_cons.mp hp with rfl | hp
          · exact ⟨n1, t2⟩
          · exact e3 p hp
        | none => cases t1
        | num i => cases t1
        | text x => cases t1
/-- how many different ones -/
def Diff (ks : List NestedKey) (m : Nat) : Prop := ∃ l : List NestedKey, l.Nodup ∧ (∀ k, k ∈ l ↔ k ∈ ks) ∧ l.length = m
section
variable {X : Cx}
def tLenSetN (X : Cx) (ta : TE) : TE := fun σ H Q => ta σ H fun x H1 => ∃ (l : Addr) (xs : List V) (G : Hp) (ks : List NestedKey) (m : Nat), x = V.ref l ∧ SqL X.K H1 l xs ∧ Ex G H1 ∧ DPs G xs (ks.map NestedKey.data) ∧ (∀ k ∈ ks, isTup k = true ∧ k.depth ≤ 8) ∧ (∃ U : List NestedKey, U.length ≤ 300 ∧ ∀ k ∈ ks, k ∈ U) ∧ Diff ks m ∧ Q (.int m) H1
theorem nd_same_len {α : Type} [DecidableEq α] {a b : List α} (ha : a.Nodup) (hb : b.Nodup) (h : ∀ x, x ∈ a ↔ x ∈ b) : a.length = b.length := Nat.le_antisymm (nd_sub_len ha fun x hx => (h x).mp hx) (nd_sub_len hb fun x hx => (h x).mpr hx)
theorem pe_lenSetN {a : Expr} {ta : TE} {p p2 q pos : Pos} (hc : X.calm = true) (hu : X.A.units + 64 < cLine) (hg : Gl X "len") (hm : X.mg "len" = none) (hg2 : Gl X "set") (hm2 : X.mg "set" = none) (ha : PE X a ta) (na : starEach [a] X.env = (false, eval a X.env) :: starEach [] X.env := by rfl) :
    PE X (.Call (.Name "len" p) [.Call (.Name "set" p2) [a] [] q] [] pos) (tLenSetN X ta) := by
  refine ⟨fun pins s σ H Q I h => Call_ (ld_blt I hg hm PySem.boot_len ?_)⟩
  refine PyProof.Rows.callWith_builtin1 (PyProof.Rows.args_cons ?_ rfl) rfl rfl
  refine Call_ (ld_blt I hg2 hm2 PyProof.Rows.boot_set ?_)
  refine PyProof.Rows.callWith_type1 (PyProof.Rows.args_cons (thn (ha.run pins s σ H _ I h) fun v s1 ⟨x, H1, I1, r1, q1⟩ => PyProof.Rows.args_nil ?_) na) na rfl
  obtain ⟨l, xs, G, ks, m, rfl, hq, eG, hds, htu, ⟨U, hU, hUs⟩, ⟨ld, hd1, hd2, hd3⟩, qf⟩ := q1
  cases r1
  obtain ⟨its, r, pl, hz⟩ := I1.list hq
  obtain ⟨L, e1, e2, e3⟩ := nkeys_at I1 eG ks htu hds r
  refine call_nset (P := X.prog) (w := X.w) L (I1.ok.hd hc) pl.isList (by simpa using e2) e3 ⟨U, hU, fun p hp => hUs _ (by rw [← e1]; exact List.mem_map_of_mem hp)⟩ (by omega) fun h' tk L' es ep t R g kp => ?_
  refine PyProof.Rows.args_nil ?_
  obtain ⟨o, ho, hex, hd⟩ := R.ob
  have hsz := NSet.size (s := { s1 with heap := h', toks := tk }) R
  have lm : es.size = m := by
    rw [hsz, ← hd3]
    have := nd_same_len R.nd hd1 fun k => by
      rw [hd2, ← e1]
      constructor
      · intro hk
        obtain ⟨p, hp, rfl⟩ := List.mem_map.mp hk
        exact List.mem_map_of_mem (List.mem_of_mem_take (g.sub p hp))
      · intro hk
        obtain ⟨p, hp, rfl⟩ := List.mem_map.mp hk
        exact g.all p (by rw [List.take_length]; exact hp)
    rwa [List.length_map] at this
  have few := R.few
  have I2 : Inv X pins σ H1 { s1 with heap := h', toks := tk } := I1.kept fun b o e => kp b o e
  exact call_len_set ho hex hd (NSet.fit (s := { s1 with heap := h', toks := tk }) R) (by omega) ⟨.int m, H1, I2.tok _, ⟨_, by rw [lm]⟩, qf⟩
end
section
variable {X : Cx} {R : Addr → Prop} {e : Expr} {ss : List Kd} {O O1 : Store} {p p2 q pos : Pos} {n : Nat}
/-- len(set(xs)) -/
theorem x_lenSetN {ds : List PyData} {ks : List NestedKey} {m : Nat} {x y : Str} (ha : EV X R e ss O (.dat (.list ds)) O1) (hd : ds = ks.map NestedKey.data) (ht : ∀ k ∈ ks, isTup k = true ∧ k.depth ≤ 8) (U : List NestedKey) (hU : U.length ≤ 300) (hs : ∀ k ∈ ks, k ∈ U) (hm : Diff ks m) (B : Bn X.mg) (hr : Room n X.A) (hc : X.calm = true := by rfl)
    (hx : x = "len" := by rfl) (hy : y = "set" := by rfl) (hg : Gl X x := by rfl) (hg2 : Gl X y := by rfl) (na : starEach [e] X.env = (false, eval e X.env) :: starEach [] X.env := by exact star_ne rfl) : EV X R (.Call (.Name x p) [.Call (.Name y p2) [e] [] q] [] pos) ss O (.dat (.int (m : Nat))) O1 := by
  subst hx hy hd
  exact fun G0 H0 G H σ S L Q w => wE_of (pe_lenSetN hc hr.units hg B.len hg2 B.set peW na) (ha G0 H0 G H σ S L _ fun G1 H1 v k O2 S1 e1 r1 ⟨h1, h2⟩ => by
    subst h1 h2
    obtain ⟨a, xs, rfl, g1, rv⟩ := dp_lst r1
    exact ⟨a, xs, G1, ks, m, rfl, .of (S1.gh _ _ g1), S1.gh, rv, ht, ⟨U, hU, hs⟩, hm, w.d S1 e1 (DP.int _) ⟨rfl, rfl⟩⟩)
end
end Dl
end
section
/-! xs.pop(i), len(xs) of a list of ours, list(range(n)) -/
namespace Dl
open PySem PySem.Spec PyProof.Rows L2
open Evl (Ex)
section
variable {X : Cx} {R : Addr → Prop} {e a b c o f : Expr} {es : List Expr} {ss : List Kd} {O O1 O2 O3 O' : Store} {k ka kb : Kd} {ks : List Kd} {pos : Pos} {n : Nat}
theorem dps_erase {G : Hp} : ∀ {vs : List V} {ds : List PyData} (i : Nat), DPs G vs ds → DPs G (vs.eraseIdx i) (ds.eraseIdx i)
  | [], _, _, h => by cases h; exact .nil
  | v :: vs, _, 0, h => by cases h with | cons _ h2 => exact h2
  | v :: vs, _, i + 1, h => by cases h with | cons h1 h2 => exact .cons h1 (dps_erase i h2)
theorem ev_popAt (j : Nat) {p : Addr} {ds : List PyData} {d : PyData} {i : Nat} {apos : Pos} (ha : EV X R a ss O (.val (.ref p)) O1) (hf : EV X R f ss O1 (.dat (.int (i : Nat))) O2) (hj1 : O1[j]? = some (p, .ol ds)) (hj : O2[j]? = some (p, .ol ds)) (hd : ds[i]? = some d) (hl : ds.length ≤ 16777216)
    (hbase : attributeBase a "pop" X.env (eval a X.env) = eval a X.env := by rfl)
    (hfew : ((backTo pos (starEach [f] X.env)).all (fun x => !x.1) && (backToKw pos (keywordEach [] X.env)).all (fun x => x.1.isSome) && decide ([f].length + ([] : List Keyword).length + (if ([] : List Keyword).isEmpty then 0 else 1) < 30)) = true := by rfl)
    (hline : (apos.endLine == pos.line) = true := by rfl) (hs : starEach [f] X.env = (false, eval f X.env) :: starEach [] X.env := by exact star_ne rfl) : EV X R (.Call (.Attribute a "pop" apos) [f] [] pos) ss O (.dat d) (O2.set j (p, .ol (ds.eraseIdx i))) := fun G0 H0 G H σ S L Q q =>
  wE_of (pe_bm PySem.F.plainAttrs_list PySem.F.slot_list_pop PySem.F.type_list_pop mt_popAt peW (pa_cons peW pa_nil hs) hbase hfew hline hs) (ha G0 H0 G H σ S L _ fun G1 H1 v k1 O3 S1 e1 r1 ⟨h3, h4⟩ => by
    subst h3 h4
    obtain rfl : v = .ref p := r1
    obtain ⟨⟨vs, hv, rv⟩, _, _⟩ := S1.ob _ (List.mem_of_getElem? hj1)
    refine ⟨.inl ⟨rfl, vs, .of hv⟩, ?_⟩
    refine hf G0 H0 G1 H1 σ S1 L _ fun G2 H2 v2 k2 O4 S2 e2 r2 ⟨h5, h6⟩ => ?_
    subst h5 h6
    obtain ⟨⟨vs, hv, rv⟩, _, _⟩ := S2.ob _ (List.mem_of_getElem? hj)
    cases dp_int r2
    obtain ⟨y, hy, ry⟩ := dpAll_get rv hd
    have il : i < vs.length := (List.getElem?_eq_some_iff.mp hy).1
    have lv := dps_len rv
    refine ⟨p, vs, (i : Nat), i, y, rfl, rfl, hv, by omega, by omega, ?_, hy, q.d (sta_olput S2 hj (dps_erase i rv)) (e1.trans e2) ry ⟨rfl, rfl⟩⟩
    unfold seqIndex?
    simp
    omega)
theorem ev_lenO (j : Nat) {p : Addr} {ds : List PyData} {x : Str} {px : Pos} (ha : EV X R e ss O (.val (.ref p)) O1) (hj : O1[j]? = some (p, .ol ds)) (B : Bn X.mg) (hx : x = "len" := by rfl) (hg : Gl X x := by rfl) (he : starEach [e] X.env = (false, eval e X.env) :: starEach [] X.env := by exact star_ne rfl) : EV X R (.Call (.Name x px) [e] [] pos) ss O (.dat (.int (ds.length : Nat))) O1 := by
  subst hx
  refine ev_callB call_len hg B.len PySem.boot_len (av_cons ha av_nil he) (fun G0 H0 G H σ ss xs S h1 Q q => ?_) (he := he)
  obtain ⟨v, rfl, r⟩ := kinds1 h1
  obtain rfl : v = .ref p := r
  obtain ⟨⟨vs, hv, rv⟩, _, _⟩ := S.ob _ (List.mem_of_getElem? hj)
  exact ⟨_, _, rfl, .inl ⟨vs, .of hv, (dps_len rv).symm⟩, q.d S (Ex.refl G) (DP.int _) ⟨rfl, rfl⟩⟩
theorem rg_dps {G : Hp} (n : Nat) : DPs G (rgV 0 (n : Nat)) ((List.range n).map fun (i : Nat) => PyData.int (i : Nat)) := by
  have e : rgV 0 (n : Nat) = (List.range n).map fun (i : Nat) => V.int (i : Nat) := by
    unfold rgV
    simp
  rw [e]
  have key : ∀ l : List Nat, DPs G (l.map fun (i : Nat) => V.int (i : Nat)) (l.map fun (i : Nat) => PyData.int (i : Nat)) := fun l => by
    induction l with
    | nil => exact .nil
    | cons i l ih => exact .cons (.int _) ih
  exact key _
/-- list(range(n)) -/
theorem en_listRg {x y : Str} {px py qpos : Pos} (ha : EV X R e ss O (.dat (.int (n : Nat))) O1) (hn : n ≤ 16777216) (B : Bn X.mg) (hc : X.calm = true := by rfl) (hx : x = "list" := by rfl) (hy : y = "range" := by rfl) (hg : Gl X x := by rfl) (hg2 : Gl X y := by rfl)
    (he : starEach [e] X.env = (false, eval e X.env) :: starEach [] X.env := by exact star_ne rfl) (he2 : starEach [Expr.Call (.Name y py) [e] [] qpos] X.env = (false, eval (Expr.Call (.Name y py) [e] [] qpos) X.env) :: starEach [] X.env := by exact star_ne rfl) : EN X R (.Call (.Name x px) [.Call (.Name y py) [e] [] qpos] [] pos) ss O (.ol ((List.range n).map fun (i : Nat) => .int (i : Nat))) O1 := by
  subst hx hy
  exact fun G0 H0 G H σ S L Q q => wE_of (pe_listRg hc hg B.list (prg_1 hg2 B.range peW he) he2) (ha G0 H0 G H σ S L _ fun G1 H1 v k O2 S1 e1 r1 ⟨h1, h2⟩ => by
    subst h1 h2
    refine ⟨(n : Nat), dp_int r1, .of_le (by omega) (by omega) (by omega) (by omega), fun p hp => ?_⟩
    exact q.v (S1.new hp (b := .ol ((List.range n).map fun (i : Nat) => .int (i : Nat))) ⟨_, upd_same, rg_dps n⟩) e1 ⟨p, rfl, rfl⟩)
end
section
variable {X : Cx} {R : Addr → Prop} {a b c : Expr} {ss : List Kd} {O O' : Store} {pos : Pos} {rest : List Stmt} {D : DE}
/-- a, b, c = e, f, g by way of the tuple -/
theorem sj_par3G (i j l : Nat) {x y z : Str} {px py pz pt : Pos} {kt k2 : Nat} {pt2 : Pos} (ha : AJ X R [a, b, c] ss O fun ks O' => ∃ k1 k2 k3, ks = [k1, k2, k3] ∧ SJ X R rest (((ss.set i k1).set j k2).set l k3) O' D) (hN : X.N.Nodup) (hc : X.calm = true := by rfl) (hi : X.N[i]? = some x := by rfl) (hj : X.N[j]? = some y := by rfl) (hk : X.N[l]? = some z := by rfl)
    (hx : Loc X.env.scope x := by first | exact Or.inl rfl | exact Or.inr rfl) (hy : Loc X.env.scope y := by first | exact Or.inl rfl | exact Or.inr rfl) (hz : Loc X.env.scope z := by first | exact Or.inl rfl | exact Or.inr rfl)
    (hfx : X.fn x = true ∨ X.env.scope.names.lookup x = some .local := by first | exact .inl rfl | exact .inr rfl) (hfy : X.fn y = true ∨ X.env.scope.names.lookup y = some .local := by first | exact .inl rfl | exact .inr rfl) (hfz : X.fn z = true ∨ X.env.scope.names.lookup z = some .local := by first | exact .inl rfl | exact .inr rfl)
    (hl : (assignEach [.Name x px, .Name y py, .Name z pz] X.env).length = 3 := by rfl) (hst : (assignEach [.Name x px, .Name y py, .Name z pz] X.env).findIdx? (·.1) = none := by rfl)
    (hs : swapsWithSole [.Tuple [.Name x px, .Name y py, .Name z pz] kt pt] (.Tuple [a, b, c] k2 pt2) pos.line X.env = pure false := by rfl) (hw : swappedStores [.Tuple [.Name x px, .Name y py, .Name z pz] kt pt] (.Tuple [a, b, c] k2 pt2) X.env = pure none := by rfl)
    (h1 : (assignEach [.Tuple [.Name x px, .Name y py, .Name z pz] kt pt] X.env).map (·.2) = [assign (.Tuple [.Name x px, .Name y py, .Name z pz] kt pt) X.env] := by rfl) : SJ X R (.Assign [.Tuple [.Name x px, .Name y py, .Name z pz] kt pt] (.Tuple [a, b, c] k2 pt2) pos :: rest) ss O D := sj_cons fun G0 H0 G H σ S L E s =>
  wS_of (ps_asg (pe_tupP paW) (pg_tup hc (pgs_cons (pg_name (i := i) hN hi hx (hf := hfx)) (pgs_cons (pg_name (i := j) hN hj hy (hf := hfy)) (pgs_cons (pg_name (i := l) hN hk hz (hf := hfz)) pgs_nil))) hl hst) hs hw h1) (ha G0 H0 G H σ S L _ fun G1 H1 vs ks O1 S1 e1 r1 ⟨k1, k2, k3, e2, h⟩ => by
    subst e2
    obtain ⟨v, w, u, rfl, d1, d2, d3⟩ := kinds3 r1
    refine ⟨by rw [sizeLine_eq]; exact (by decide : 3 ≤ 16777216), fun p o hp ho => ?_⟩
    have eg : Ex G1 (upd G1 p (.frz o (.tup [v, w, u]))) := Ex.new (S1.free hp)
    have S2 := S1.data hp (.frz o (.tup [v, w, u]))
    refine ⟨p, [v, w, u], rfl, (PTu.new ho).sq S2.gh, rfl, v, [w, u], rfl, w, [u], rfl, u, [], rfl, rfl, ?_⟩
    exact s.nx _ _ _ _ O1 (((S2.set i (kd_ex eg d1)).set j (kd_ex eg d2)).set l (kd_ex eg d3)) (e1.trans eg) h)
end
end Dl
end
section
/-! for x in d.items() under one name -/
namespace Dl
open PySem PySem.Spec PyProof.Rows L2
open Evl (Ex)
open PySem.W (KdxIt)
section
variable {prog : Program} {w : World} {A : Around} {E : Value → Shared → Prop} {s : Shared}
/-- the next pair, whether or not the iterator's own tuple still lives -/
theorem nextG {it d a : Addr} {f : Bool} {i ep : Nat} {es : Array DictEntry} {ok ov : Value} {Q : Option Value → Shared → Prop} (hit : KdxIt s.heap it d i es.size ep ok ov a f) (hm : s.heap.DictRaw d es ep) (hi : i < es.size)
    (hQ : ∀ h' ok' ov' a' f', KdxIt h' it d (i + 1) es.size ep ok' ov' a' f' → h'.get? s.heap.objs.size = some { cls := .type "tuple", data := .seq #[es[i].key, es[i].val] } → h'.objs.size = s.heap.objs.size + 1 →
      (∀ b o, b ≠ it → s.heap.get? b = some o → h'.get? b = some o) → Q (some (.ref s.heap.objs.size)) { s with heap := h' }) : wpAny (model prog w) A (pyNext (.ref it)) Q E s := by
  obtain ⟨hp, g, dr, tk, os⟩ := s
  obtain ⟨od, hod, hcd, hdd⟩ := id hm
  have hT : Shared.TypeIs ⟨hp, g, dr, tk, os⟩ (.ref it) "dict_itemiterator" := ⟨_, hit, rfl⟩
  have hown : Builtin.Dict_items.ownsTuple "dict_itemiterator" = true := by decide
  unfold pyNext
  refine wpAny_bind (wpAny_attempt (wpAny_callSpecial?_slot (name := Str.ofString "__next__") hT PySem.F.slot_dict_itemiterator_next
    (wpAny_call_entry PySem.F.slot_dict_itemiterator_next hT PySem.F.entry_dict_itemiterator_next ?_ (PySem.F.args_dict_itemiterator_next_1 _))))
  refine wpAny_bind (wpAny_pure (wpAny_bind (wpAny_bind ?_)))
  first | refine wpAny_bind (wpAny_typeNameOfWhole_itemiter hT (wpAny_pure ?_)) | refine wpAny_bind (wpAny_typeNameOf_itemiter hT (wpAny_pure ?_))
  refine wpAny_bind (wpAny_fieldsOf hit rfl ?_)
  simp only [hown, if_true]
  show wpAny _ _ (if (Value.ref d == Value.none) = true then _ else _) _ _ _
  refine wp_if_neg Bool.false_ne_true (wpAny_bind (wpAny_pure (wpAny_bind (wpAny_dictEntries hod hdd ?_))))
  refine wp_if_neg (by simp) (wpAny_bind (wpAny_pure (wpAny_bind (wpAny_dictEpoch hod hdd ?_))))
  refine wp_if_neg (by simp) (wpAny_pure ?_)
  simp only [show ¬ ((i : Int) < 0) from by omega, if_false, Int.toNat_natCast, Array.getElem?_eq_getElem hi]
  refine wpAny_bind ?_
  first | refine wpAny_bind (wpAny_typeNameOfWhole_itemiter hT (wpAny_pure ?_)) | refine wpAny_bind (wpAny_typeNameOf_itemiter hT (wpAny_pure ?_))
  refine wpAny_bind (wpAny_isOneOf_itemiter hT ?_)
  show wpAny _ _ (setField (.ref it) 3 (rawInt ((i : Int) + 1)) >>= _) _ _ ⟨hp, g, dr, tk, os⟩
  refine wpAny_bind (wpAny_setField_rec hit (by simp) fun h₁ he₁ hs₁ => ?_)
  replace hs₁ : Heap.SameBut it hp h₁ := hs₁
  replace he₁ : KdxIt h₁ it d (i + 1) es.size ep ok ov a f := by
    have e : ((i + 1 : Nat) : Int) = (i : Int) + 1 := by omega
    unfold KdxIt; rw [e]; simpa [rawInt] using he₁
  have hT₁ : Shared.TypeIs ⟨h₁, g, dr, tk, os⟩ (.ref it) "dict_itemiterator" := ⟨_, he₁, rfl⟩
  refine wpAny_bind (wpAny_holding (wpAny_bind (wpAny_isOneOf_itemiter hT₁ (wpAny_bind (wpAny_isOneOf_itemiter hT₁ ?_)))))
  show wpAny _ _ (Builtin.Dict_items.pairFromOwner (.ref it) 6 es[i].key es[i].val) _ _ ⟨h₁, g, dr, tk, os⟩
  unfold Builtin.Dict_items.pairFromOwner
  refine wpAny_bind (wpAny_newTuple ?_)
  have he₂ : KdxIt (h₁.push { cls := .type "tuple", data := .seq #[es[i].key, es[i].val] }) it d (i + 1) es.size ep ok ov a f := Heap.get?_push_of_some _ he₁
  have hil : it < hp.objs.size := Heap.lt_size hit
  have hne := Nat.ne_of_gt hil
  have ht₂ : (h₁.push { cls := .type "tuple", data := .seq #[es[i].key, es[i].val] }).get? hp.objs.size = some { cls := .type "tuple", data := .seq #[es[i].key, es[i].val] } := by rw [← hs₁.1]; exact Heap.get?_push_size _ rfl
  have hz₂ : (h₁.push { cls := .type "tuple", data := .seq #[es[i].key, es[i].val] }).objs.size = hp.objs.size + 1 := by rw [Heap.size_push, hs₁.1]
  have hk₂ : ∀ b o, b ≠ it → hp.get? b = some o → (h₁.push { cls := .type "tuple", data := .seq #[es[i].key, es[i].val] }).get? b = some o := fun b o hb e => Heap.get?_push_of_some _ (hs₁.extBut b o hb e)
  rw [hs₁.1]
  generalize h₁.push { cls := .type "tuple", data := .seq #[es[i].key, es[i].val] } = h₂ at he₂ ht₂ hz₂ hk₂ ⊢
  show wpAny _ _ (Builtin.Dict_items.ownedTupleIsFree (.ref it) >>= _) _ _ ⟨h₂, g, dr, tk, os⟩
  have fin : ∀ h₃ ok' ov' a' f', KdxIt h₃ it d (i + 1) es.size ep ok' ov' a' f' → Heap.SameBut it h₂ h₃ → Q (some (.ref hp.objs.size)) ⟨h₃, g, dr, tk, os⟩ := fun h₃ ok' ov' a' f' he hs =>
    hQ h₃ ok' ov' a' f' he (hs.extBut _ _ hne ht₂) (hs.1.trans hz₂) fun b o hb e => hs.extBut b o hb (hk₂ b o hb e)
  refine wpAny_bind ?_
  unfold Builtin.Dict_items.ownedTupleIsFree
  refine wpAny_bind (wpAny_field he₂ rfl (x := rawInt a) rfl ?_)
  show wpAny _ _ (loadIfAlive ((a : Int).toNat) >>= _) _ _ _
  rw [Int.toNat_natCast]
  refine wpAny_bind ?_
  have alive : ∀ {R : Option Obj → Shared → Prop} {EE : Value → Shared → Prop} {AA : Around}, R (h₂.get? a) ⟨h₂, g, dr, tk, os⟩ → wpAny (model prog w) AA (loadIfAlive a) R EE ⟨h₂, g, dr, tk, os⟩ := fun h _ _ _ => h
  refine alive ?_
  cases h₂.get? a with
  | some oa =>
    simp only [Option.isNone_some, Bool.false_eq_true, if_false]
    refine wpAny_bind (wpAny_field he₂ rfl (x := .bool f) rfl ?_)
    cases f with
    | true =>
      refine wp_if_neg Bool.false_ne_true (wpAny_pure ?_)
      simp only [Bool.false_eq_true, if_false]
      exact wpAny_pure (wpAny_pure ⟨_, rfl, wpAny_pure (fin h₂ _ _ _ _ he₂ (Heap.SameBut.refl _ _))⟩)
    | false =>
      refine wp_if_pos rfl (wpAny_bind (wpAny_setField_rec he₂ (by simp) fun h₃ he₃ hs₃ => wpAny_pure ?_))
      simp only [Bool.false_eq_true, if_false]
      have he₃' : KdxIt h₃ it d (i + 1) es.size ep ok ov a true := he₃
      exact wpAny_pure (wpAny_pure ⟨_, rfl, wpAny_pure (fin h₃ _ _ _ _ he₃' hs₃)⟩)
  | none =>
    simp only [Option.isNone_none, if_true]
    refine wpAny_pure ?_
    simp only [if_true]
    refine wpAny_bind (wpAny_field he₂ rfl (x := ok) rfl ?_)
    refine wpAny_bind (wpAny_field he₂ rfl (x := ov) rfl ?_)
    refine wpAny_bind (wpAny_setField_rec he₂ (by simp) fun h₃ he₃ hs₃ => ?_)
    replace he₃ : KdxIt h₃ it d (i + 1) es.size ep es[i].key ov a f := he₃
    refine wpAny_bind (wpAny_setField_rec he₃ (by simp) fun h₄ he₄ hs₄ => ?_)
    replace he₄ : KdxIt h₄ it d (i + 1) es.size ep es[i].key es[i].val a f := he₄
    refine wpAny_bind (wpAny_setField_rec he₄ (by simp) fun h₅ he₅ hs₅ => ?_)
    replace he₅ : KdxIt h₅ it d (i + 1) es.size ep es[i].key es[i].val hp.objs.size f := he₅
    refine wpAny_bind (wpAny_setField_rec he₅ (by simp) fun h₆ he₆ hs₆ => ?_)
    replace he₆ : KdxIt h₆ it d (i + 1) es.size ep es[i].key es[i].val hp.objs.size false := he₆
    exact wpAny_bind (wpAny_letGo (wpAny_pure (wpAny_pure ⟨_, rfl, wpAny_pure (fin h₆ _ _ _ _ he₆ (((hs₃.trans hs₄).trans hs₅).trans hs₆))⟩)))
theorem kcp_selfG {it d a : Addr} {i n ep : Nat} {ok ov : Value} {f : Bool} {Q : Value → Shared → Prop} (hit : KdxIt s.heap it d i n ep ok ov a f) (h : Q (.ref it) s) : wpAny (model prog w) A (pyIter (.ref it)) Q E s := by
  have hT : s.TypeIs (.ref it) "dict_itemiterator" := ⟨_, hit, rfl⟩
  refine wpAny_pyIter_slot hT PySem.F.slot_dict_itemiterator_iter (wpAny_call_entry PySem.F.slot_dict_itemiterator_iter hT PySem.W.kcp_entry ?_ (PySem.F.args_dict_itemiterator_iter_1 _))
  show wpAny _ _ (ret (.ref it)) _ _ s
  exact wpAny_pure ⟨_, rfl, "dict_itemiterator", _, hT, PySem.F.slot_dict_itemiterator_next.lookup, h⟩
end
def ItG (h : Heap) (it d : Addr) (i n ep : Nat) : Prop := (∃ ok ov, IsItemIter h it d i n ep ok ov) ∨ ∃ ok ov a f, KdxIt h it d i n ep ok ov a f
section
variable {P : Program} {w : World} {K : PySem.W.Frag} {d : Addr} {o : Obj} {es : Array DictEntry} {ep : Nat}
theorem turn_itemsN {kvs : List (Key × V)} {nm : Str} {tpos : Pos} (it : Addr) (hod : o.data = .dict es ep) : Turn P w K (.Name nm tpos) (Iti d o kvs) [it] it (fun i h => ItG h it d i kvs.length ep) where
  mem := by simp
  obj := fun i h st b hb => by
    have e : b = it := by simpa using hb
    subst e
    rcases st with ⟨ok, ov, e⟩ | ⟨ok, ov, a, f, e⟩
    · exact ⟨_, e, fun v z => nomatch z⟩
    · exact ⟨_, e, fun v z => nomatch z⟩
  keep := fun i h h' st k => by
    rcases st with ⟨ok, ov, e⟩ | ⟨ok, ov, a, f, e⟩
    · exact .inl ⟨ok, ov, k it (by simp) _ e⟩
    · exact .inr ⟨ok, ov, a, f, k it (by simp) _ e⟩
  item := by
    intro X hP hw hK hc i pins s σ H E I hf st hg
    subst hP hw hK
    obtain ⟨hd, hi⟩ := hg
    obtain ⟨hs, hgd, hx, es', ep', vs, hdt, hsz, kv, hm⟩ := I.frzK hd
    obtain ⟨rfl, rfl⟩ := dict_ep hod hdt
    obtain ⟨⟨k, v⟩, hkv⟩ : ∃ p, kvs[i]? = some p := ⟨kvs[i], List.getElem?_eq_getElem hi⟩
    obtain ⟨u, hu, ru⟩ := kv_get kv hkv
    have hl : kvs.length = vs.length := Paired.length kv
    have fin : ∀ key h', keyIs k key = true → ItG h' it d (i + 1) vs.length ep' → h'.get? s.heap.objs.size = some { cls := .type "tuple", data := .seq #[key, u] } → (∀ b ob, b ≠ it → s.heap.get? b = some ob → h'.get? b = some ob) → it < s.heap.objs.size →
        ∃ x H', Inv X pins σ H' { s with heap := h' } ∧ RelV x (.ref s.heap.objs.size) ∧ (Iti d o kvs).yld i H x H' ∧ ItG h' it d (i + 1) kvs.length ep' ∧ ∀ b ∈ [it], H' b = none := by
      intro key h' hkey st' hT hk hlt
      have new : ObjOk X.prog X.w (upd H s.heap.objs.size (.tup [kV k, v])) h' s.heap.objs.size (.tup [kV k, v]) :=
        ⟨by show 2 ≤ sizeLine; decide, [key, u], .cons (relV_key hkey) (.cons ru .nil), ⟨_, hT, rfl, _, rfl⟩⟩
      have I1 : Inv X pins σ (upd H s.heap.objs.size (.tup [kV k, v])) { s with heap := h' } := I.turnedNew (t' := s.toks) (ch := [it]) (fun b ob hb e => hk b ob (by simpa using hb) e) hf (Nat.le_refl _) new
      refine ⟨.ref s.heap.objs.size, _, I1, rfl, ⟨_, k, v, hkv, rfl, I.hok.fresh (Nat.le_refl _), rfl⟩, by rw [hl]; exact st', fun b hb => ?_⟩
      have e : b = it := by simpa using hb
      rw [e, upd_ne (Nat.ne_of_lt hlt)]
      exact (hf it (by simp)).1
    rw [hl] at st
    rcases st with ⟨ok, ov, he⟩ | ⟨ok, ov, a, f, he⟩
    · have hlt : it < s.heap.objs.size := Heap.lt_size he
      refine wpAny_pyNext_items_item he hm hu fun key h' hkey ho hT hz hk => ⟨_, rfl, wpAny_pure ?_⟩
      obtain ⟨x, H', a1, a2, a3, a4, a5⟩ := fin key h' hkey (.inr ⟨_, _, _, _, ho⟩) hT hk hlt
      exact ⟨x, H', a1, a2, a3, a4, a5⟩
    · have hlt : it < s.heap.objs.size := Heap.lt_size he
      obtain ⟨es2, hr, hs2, hes⟩ := hm.raw
      have hi2 : i < es2.size := by rw [hs2, ← hl]; exact hi
      obtain ⟨b1, b2⟩ := hes i hi2 k u hu
      rw [← hs2] at he
      refine nextG he hr hi2 fun h' ok' ov' a' f' ho hT hz hk => ⟨_, rfl, wpAny_pure ?_⟩
      obtain ⟨x, H', a1, a2, a3, a4, a5⟩ := fin es2[i].key h' b1 (by rw [← hs2]; exact .inr ⟨_, _, _, _, ho⟩) (by rw [hT, b2]) hk hlt
      exact ⟨x, H', a1, a2, a3, a4, a5⟩
  done := by
    intro X hP hw hK hc i pins s σ H E I hf st hg
    subst hP hw hK
    obtain ⟨hd, hi⟩ := hg
    obtain ⟨f0, f1, f2, f3, f4, f5⟩ := hf it (by simp)
    obtain ⟨hs, hgd, hx, es', ep', vs, hdt, hsz, kv, hm⟩ := I.frzK hd
    obtain ⟨rfl, rfl⟩ := dict_ep hod hdt
    have hl : kvs.length = vs.length := Paired.length kv
    rw [hl] at st
    rcases st with ⟨ok, ov, he⟩ | ⟨ok, ov, a, f, he⟩
    · exact wpAny_pyNext_items_end (I.ok.hd hc) he hm (List.getElem?_eq_none (by omega)) fun h' eb => ⟨rfl, I.turned (t' := s.toks) (fun b ob hb e => eb b ob hb e) f0 f1 f3 f4 f5⟩
    · exact PySem.W.kdx_end_out (I.ok.hd hc) he hm (List.getElem?_eq_none (by omega)) fun h' eb => ⟨rfl, I.turned (t' := s.toks) (fun b ob hb e => eb b ob hb e) f0 f1 f3 f4 f5⟩
  self := fun A i s Q E st h => by
    rcases st with ⟨ok, ov, e⟩ | ⟨ok, ov, a, f, e⟩
    · exact PySem.W.kcp_self e h
    · exact kcp_selfG e h
end
section
variable {X : Cx} {e : Expr} {td : TE} {apos cpos tpos : Pos} {nm : Str}
theorem pi_itemsN (he : PE X e td) (hbase : attributeBase e "items" X.env (eval e X.env) = eval e X.env := by rfl) (hline : (apos.endLine == cpos.line) = true := by rfl) :
    PI X (.Name nm tpos) (.Call (.Attribute e "items" apos) [] [] cpos) (iItems td) := by
  refine ⟨fun pins s σ H R I h => ?_⟩
  refine wpAny_Call_method (T := "dict") (id := "dict.items") hbase rfl hline F.plainAttrs_dict F.slot_dict_items F.type_dict_items (thn (he.run pins s σ H _ I h) fun u s1 ⟨x, H1, I1, rx, d, o, kvs, ex, hd, q⟩ => ?_)
  subst ex
  obtain rfl : u = Value.ref d := rx
  obtain ⟨hs, hgd, hx, es, ep, vs, hdt, hsz, kv, hm⟩ := I1.frzK hd
  have hl : kvs.length = vs.length := Paired.length kv
  refine ⟨hm.dictOf.typeIs, hm.dictOf.mapOf.noDict, ?_⟩
  have I2 : Inv X pins σ H1 { s1 with heap := s1.heap.push { cls := .type "dict_items", data := .fields #[.ref d] } } := I1.kept (t' := s1.toks) fun b ob q => Heap.get?_push_of_some _ q
  have fin : wpAny (model X.prog X.w) X.A (pyIter (.ref s1.heap.objs.size)) (PIE X pins σ (.Name nm tpos) R) X.xe { s1 with heap := s1.heap.push { cls := .type "dict_items", data := .fields #[.ref d] } } := by
    refine wpAny_pyIter_items (d := d) (knd := mixKind X.prog X.w) ⟨_, Heap.get?_push_size _ rfl, rfl, rfl⟩ (hm.push _) (pi_one (tk := s1.toks) I2 _ (turn_itemsN _ hdt) (.inl ⟨.none, .none, ?_⟩) q)
    rw [hl]
    exact Heap.get?_push_size _ rfl
  show wpAny _ _ (callWith cpos (.builtin "dict.items") [.ref d] [] []) _ X.xe s1
  exact method_meetsIn F.slot_dict_items F.entry_dict_items rfl (PySem.evalArgs_none ⟨rfl, hm.dictOf.typeIs, F.args_dict_items_1 _, _, meets_dict_items (mixKind X.prog X.w) d hs, ⟨vs, hm.dictOf⟩, fin⟩)
end
section
variable {X : Cx} {R : Addr → Prop} {e : Expr} {ss : List Kd} {O O' : Store} {apos cpos tpos : Pos} {nm : Str}
theorem ij_itemsN {kvs : List (Str × PyData)} (h : EV X R e ss O (.dat (dK kvs)) O') (hbase : attributeBase e "items" X.env (eval e X.env) = eval e X.env := by rfl) (hline : (apos.endLine == cpos.line) = true := by rfl) :
    IJ X R (.Name nm tpos) (.Call (.Attribute e "items" apos) [] [] cpos) ss O kvs.length (fun i => .two (.str (kvs.getD i (⟨#[]⟩, .none)).1) (kvs.getD i (⟨#[]⟩, .none)).2) any O' := ⟨_, pi_itemsN peW hbase hline, fun G0 H0 G H σ S L Rr q =>
  h G0 H0 G H σ S L _ fun G1 H1 v k O1 S1 e1 r1 ⟨h1, h2⟩ => by
    subst h1 h2
    obtain ⟨p, o, ws, rfl, g1, r⟩ := dp_dict r1
    refine ⟨p, o, ws, rfl, S1.gh _ _ g1, q G1 H1 _ S1 e1 ⟨fun i G0 H0 G' H' σ ss O S2 e2 _ hi => ⟨S2.gh _ _ (e2 _ _ g1), by rw [kv_len r]; exact hi⟩, fun i G0 H0 G' H' σ ss O x H2 S2 e2 _ hi y => ?_, fun G0 H0 G' H' σ ss O S2 e2 _ => ⟨S2.gh _ _ (e2 _ _ g1), Nat.le_of_eq (kv_len r)⟩⟩⟩
    obtain ⟨T, k, v, hk, rfl, hT, rfl⟩ := y
    obtain ⟨⟨s, d⟩, hs⟩ : ∃ q, kvs[i]? = some q := ⟨_, List.getElem?_eq_getElem hi⟩
    obtain ⟨v', hv', dv⟩ := dpk_get r hs
    rw [hk] at hv'
    cases hv'
    have eg : Ex G' (upd G' T (.tup [.str s, v])) := Ex.new (S2.free hT)
    refine ⟨_, S2.data hT _, eg, ?_⟩
    simp only [List.getD_eq_getElem?_getD, hs, Option.getD_some]
    exact ⟨T, _, _, rfl, upd_same, .str s, dp_ex (e2.trans eg) dv⟩⟩
theorem il_itemsMN {α : Type} {xs : List α} {g : α → Str × PyData} (h : EV X R e ss O (.dat (dK (xs.map g))) O') (hbase : attributeBase e "items" X.env (eval e X.env) = eval e X.env := by rfl) (hline : (apos.endLine == cpos.line) = true := by rfl) :
    IL X R (.Name nm tpos) (.Call (.Attribute e "items" apos) [] [] cpos) ss O xs (fun q => .two (.str (g q).1) (g q).2) O' :=
  il_of (ij_itemsN h hbase hline) (by simp) fun i hi => by simp [List.getD_eq_getElem?_getD, hi]
end
section
variable {X : Cx} {R : Addr → Prop} {a b : Expr} {ss : List Kd} {O O1 O2 : Store} {pos : Pos}
/-- x[0], x[1] of such a pair -/
theorem ev_ix2 {d1 d2 d : PyData} {i : Int} (ha : EV X R a ss O (.two d1 d2) O1) (hb : EV X R b ss O1 (.dat (.int i)) O2) (h : atI [d1, d2] i = some d) (hs : PlainIx b := by exact fun _ _ => rfl) : EV X R (.Subscript a b pos) ss O (.dat d) O2 :=
  ej_ix ix_tup ha hb (fun G0 H0 G H σ ss x y S h1 h2 Q q => by
    obtain ⟨p, u, v, rfl, g1, k1, k2⟩ := h1
    obtain ⟨z, hz, dz⟩ := atI_dps (.cons k1 (.cons k2 .nil)) h
    exact ⟨p, _, i, z, rfl, dp_int h2, .of (S.gh _ _ g1), hz, q.d S (Ex.refl G) dz ⟨rfl, rfl⟩⟩) hs
end
end Dl
end
section
namespace Fc
open PySem PySem.Spec PyProof.Rows L2 Dl
def topS (i : Nat) : Stmt := PySem.Challenge.pw_signlayers_k06_whole_stacks_on_all_texts.main.body.getD i (.Pass ⟨0, 0, 0, 0⟩)
abbrev s_is_integer : Stmt := topS 12
abbrev n_is_integer : List Str := ["value", "low", "high"]
theorem sc_is_integer : FnScope n_is_integer ["value", "low", "high"] (defScope s_is_integer) := ⟨rfl, rfl, rfl, by decide +kernel, rfl, by decide +kernel, by decide +kernel⟩
abbrev s_signs : Stmt := topS 13
abbrev n_of_signs : List Str := ["value", "least", "most", "sign"]
theorem sc_of_signs : FnScope n_of_signs ["value", "least", "most"] (defScope s_signs) := ⟨rfl, rfl, rfl, by decide +kernel, rfl, by decide +kernel, by decide +kernel⟩
abbrev s_pair : Stmt := topS 14
abbrev n_is_pair : List Str := ["value"]
theorem sc_is_pair : FnScope n_is_pair ["value"] (defScope s_pair) := ⟨rfl, rfl, rfl, by decide +kernel, rfl, by decide +kernel, by decide +kernel⟩
abbrev s_islay : Stmt := topS 15
abbrev n_is_layer : List Str := ["value", "pair", "one", "other"]
theorem sc_is_layer : FnScope n_is_layer ["value"] (defScope s_islay) := ⟨rfl, rfl, rfl, by decide +kernel, rfl, by decide +kernel, by decide +kernel⟩
abbrev s_isstk : Stmt := topS 16
abbrev n_is_stack : List Str := ["value", "layer"]
theorem sc_is_stack : FnScope n_is_stack ["value"] (defScope s_isstk) := ⟨rfl, rfl, rfl, by decide +kernel, rfl, by decide +kernel, by decide +kernel⟩
abbrev s_need_stack : Stmt := topS 17
abbrev n_need_stack : List Str := ["value"]
theorem sc_need_stack : FnScope n_need_stack ["value"] (defScope s_need_stack) := ⟨rfl, rfl, rfl, by decide +kernel, rfl, by decide +kernel, by decide +kernel⟩
abbrev s_need_text : Stmt := topS 18
abbrev n_need_text : List Str := ["value"]
theorem sc_need_text : FnScope n_need_text ["value"] (defScope s_need_text) := ⟨rfl, rfl, rfl, by decide +kernel, rfl, by decide +kernel, by decide +kernel⟩
abbrev s_need_times : Stmt := topS 19
abbrev n_need_times : List Str := ["value", "most"]
theorem sc_need_times : FnScope n_need_times ["value", "most"] (defScope s_need_times) := ⟨rfl, rfl, rfl, by decide +kernel, rfl, by decide +kernel, by decide +kernel⟩
abbrev s_by_layer : Stmt := topS 20
abbrev n_by_layer : List Str := ["layer", "text", "known", "sign"]
theorem sc_by_layer : FnScope n_by_layer ["layer", "text"] (defScope s_by_layer) := ⟨rfl, rfl, rfl, by decide +kernel, rfl, by decide +kernel, by decide +kernel⟩
abbrev s_by_stack : Stmt := topS 21
abbrev n_by_stack : List Str := ["stack", "text", "layer"]
theorem sc_by_stack : FnScope n_by_stack ["stack", "text"] (defScope s_by_stack) := ⟨rfl, rfl, rfl, by decide +kernel, rfl, by decide +kernel, by decide +kernel⟩
abbrev s_results : Stmt := topS 22
abbrev n_results : List Str := ["stack", "layer", "pair", "sign"]
theorem sc_results : FnScope n_results ["stack"] (defScope s_results) := ⟨rfl, rfl, rfl, by decide +kernel, rfl, by decide +kernel, by decide +kernel⟩
abbrev s_counted : Stmt := topS 23
abbrev n_counted : List Str := ["text", "sign"]
theorem sc_counted : FnScope n_counted ["text"] (defScope s_counted) := ⟨rfl, rfl, rfl, by decide +kernel, rfl, by decide +kernel, by decide +kernel⟩
abbrev s_run_counts : Stmt := topS 24
abbrev n_run_counts : List Str := ["known", "counts", "found", "sign", "number", "other", "more"]
theorem sc_run_counts : FnScope n_run_counts ["known", "counts"] (defScope s_run_counts) := ⟨rfl, rfl, rfl, by decide +kernel, rfl, by decide +kernel, by decide +kernel⟩
abbrev s_length_by_runs : Stmt := topS 25
abbrev n_length_by_runs : List Str := ["known", "text", "times", "counts", "turn"]
theorem sc_length_by_runs : FnScope n_length_by_runs ["known", "text", "times"] (defScope s_length_by_runs) := ⟨rfl, rfl, rfl, by decide +kernel, rfl, by decide +kernel, by decide +kernel⟩
abbrev s_written : Stmt := topS 26
abbrev n_written : List Str := ["stack", "text", "times", "known", "turn", "sign"]
theorem sc_written : FnScope n_written ["stack", "text", "times"] (defScope s_written) := ⟨rfl, rfl, rfl, by decide +kernel, rfl, by decide +kernel, by decide +kernel⟩
abbrev s_table_of : Stmt := topS 28
abbrev n_table_of : List Str := ["stack", "sign", "result"]
theorem sc_table_of : FnScope n_table_of ["stack"] (defScope s_table_of) := ⟨rfl, rfl, rfl, by decide +kernel, rfl, by decide +kernel, by decide +kernel⟩
abbrev s_table : Stmt := topS 29
abbrev n_table : List Str := ["stack"]
theorem sc_table : FnScope n_table ["stack"] (defScope s_table) := ⟨rfl, rfl, rfl, by decide +kernel, rfl, by decide +kernel, by decide +kernel⟩
abbrev s_same : Stmt := topS 30
abbrev n_same : List Str := ["first", "second"]
theorem sc_same : FnScope n_same ["first", "second"] (defScope s_same) := ⟨rfl, rfl, rfl, by decide +kernel, rfl, by decide +kernel, by decide +kernel⟩
abbrev s_telling_sign : Stmt := topS 31
abbrev n_telling_sign : List Str := ["first", "second", "one", "other", "sign"]
theorem sc_telling_sign : FnScope n_telling_sign ["first", "second"] (defScope s_telling_sign) := ⟨rfl, rfl, rfl, by decide +kernel, rfl, by decide +kernel, by decide +kernel⟩
abbrev s_idle_layers : Stmt := topS 32
abbrev n_idle_layers : List Str := ["stack", "due", "index"]
theorem sc_idle_layers : FnScope n_idle_layers ["stack"] (defScope s_idle_layers) := ⟨rfl, rfl, rfl, by decide +kernel, rfl, by decide +kernel, by decide +kernel⟩
abbrev s_orders : Stmt := topS 33
abbrev n_orders : List Str := ["items", "found", "item", "longer", "row", "place"]
theorem sc_orders : FnScope n_orders ["items"] (defScope s_orders) := ⟨rfl, rfl, rfl, by decide +kernel, rfl, by decide +kernel, by decide +kernel⟩
abbrev s_count_orders : Stmt := topS 34
abbrev n_count_orders : List Str := ["stack", "row"]
theorem sc_count_orders : FnScope n_count_orders ["stack"] (defScope s_count_orders) := ⟨rfl, rfl, rfl, by decide +kernel, rfl, by decide +kernel, by decide +kernel⟩
abbrev s_cell : Stmt := topS 36
abbrev n_law_cell_at : List Str := ["script", "k"]
theorem sc_law_cell_at : FnScope n_law_cell_at ["script", "k"] (defScope s_cell) := ⟨rfl, rfl, rfl, by decide +kernel, rfl, by decide +kernel, by decide +kernel⟩
abbrev s_draws : Stmt := topS 37
abbrev n_law_draws : List Str := ["cell", "many", "size", "found", "rest", "stirred", "k"]
theorem sc_law_draws : FnScope n_law_draws ["cell", "many", "size"] (defScope s_draws) := ⟨rfl, rfl, rfl, by decide +kernel, rfl, by decide +kernel, by decide +kernel⟩
abbrev s_bag : Stmt := topS 38
abbrev n_law_bag : List Str := ["script", "k"]
theorem sc_law_bag : FnScope n_law_bag ["script", "k"] (defScope s_bag) := ⟨rfl, rfl, rfl, by decide +kernel, rfl, by decide +kernel, by decide +kernel⟩
abbrev s_bags : Stmt := topS 39
abbrev n_law_bags : List Str := ["script", "limit", "k"]
theorem sc_law_bags : FnScope n_law_bags ["script", "limit"] (defScope s_bags) := ⟨rfl, rfl, rfl, by decide +kernel, rfl, by decide +kernel, by decide +kernel⟩
abbrev s_take : Stmt := topS 40
abbrev n_law_take : List Str := ["bag", "many"]
theorem sc_law_take : FnScope n_law_take ["bag", "many"] (defScope s_take) := ⟨rfl, rfl, rfl, by decide +kernel, rfl, by decide +kernel, by decide +kernel⟩
abbrev s_pool : Stmt := topS 41
abbrev n_law_pool : List Str := ["bag"]
theorem sc_law_pool : FnScope n_law_pool ["bag"] (defScope s_pool) := ⟨rfl, rfl, rfl, by decide +kernel, rfl, by decide +kernel, by decide +kernel⟩
abbrev s_layer : Stmt := topS 42
abbrev n_law_layer : List Str := ["bag", "pool", "most", "found", "sign", "size", "text", "turn"]
theorem sc_law_layer : FnScope n_law_layer ["bag", "pool", "most"] (defScope s_layer) := ⟨rfl, rfl, rfl, by decide +kernel, rfl, by decide +kernel, by decide +kernel⟩
abbrev s_stack : Stmt := topS 43
abbrev n_law_stack : List Str := ["bag", "pool", "many", "most", "turn"]
theorem sc_law_stack : FnScope n_law_stack ["bag", "pool", "many", "most"] (defScope s_stack) := ⟨rfl, rfl, rfl, by decide +kernel, rfl, by decide +kernel, by decide +kernel⟩
abbrev s_text : Stmt := topS 44
abbrev n_law_text : List Str := ["bag", "pool", "most", "signs", "turn"]
theorem sc_law_text : FnScope n_law_text ["bag", "pool", "most"] (defScope s_text) := ⟨rfl, rfl, rfl, by decide +kernel, rfl, by decide +kernel, by decide +kernel⟩
abbrev s_law_run : Stmt := topS 45
abbrev n_law_run : List Str := ["known", "text", "sign"]
theorem sc_law_run : FnScope n_law_run ["known", "text"] (defScope s_law_run) := ⟨rfl, rfl, rfl, by decide +kernel, rfl, by decide +kernel, by decide +kernel⟩
abbrev s_law : Stmt := topS 46
abbrev n_law : List Str := ["script", "bag", "pool", "stack", "other", "text", "more", "found", "telling", "stays", "at", "sign", "pair"]
theorem sc_law : FnScope n_law ["script"] (defScope s_law) := ⟨rfl, rfl, rfl, by decide +kernel, rfl, by decide +kernel, by decide +kernel⟩
end Fc
end
section
namespace Fc
open PySem PySem.Spec PyProof.Rows L2 Dl
open Evl (Ex)
def tk (ds : List Nat) (i n : Nat) : Nat := ds.getD (i % ds.length) 0 % n
theorem tk_lt {ds : List Nat} {i n : Nat} (h : 0 < n) : tk ds i n < n := Nat.mod_lt _ h
def pools : List Tx := [[97, 98], [97, 98, 99], [97, 98, 38, 59], [38, 59, 60, 39, 32, 97], [97, 98, 99, 100, 101, 102, 103, 104]]
theorem pool_ok : ∀ p ∈ pools, p ≠ [] ∧ p.length ≤ 8 ∧ p.Nodup := by decide
abbrev Lay := List (Nat × Tx)
def pairD (q : Nat × Tx) : PyData := .tuple [dS [q.1], dS q.2]
def layD (L : Lay) : PyData := .tuple (L.map pairD)
def stkD (Ls : List Lay) : PyData := .tuple (Ls.map layD)
structure IsLay (pool : Tx) (most : Nat) (L : Lay) : Prop where
  len : L.length ≤ 8
  ord : (L.map (·.1)).Pairwise (· < ·)
  ok : ∀ q ∈ L, q.1 ∈ pool ∧ 1 ≤ q.2.length ∧ q.2.length ≤ most ∧ ∀ c ∈ q.2, c ∈ pool
theorem lt_one (a b : Nat) : ([a] : Tx) < [b] ↔ a < b := by
  constructor
  · intro h
    rcases List.cons_lt_cons_iff.mp h with h | ⟨_, h⟩
    · exact h
    · exact absurd h (List.not_lt_nil _)
  · intro h
    exact List.cons_lt_cons_iff.mpr (.inl h)
theorem srt_signs (l : List Nat) : ∃ zs : List Nat, srtT (l.map fun c => [c]) = zs.map (fun c => [c]) ∧ zs.Perm l ∧ zs.Pairwise (· ≤ ·) := by
  have hp := srtT_perm (l.map fun c => [c])
  have hs := srtT_sorted (l.map fun c => [c])
  have e : srtT (l.map fun c => [c]) = ((srtT (l.map fun c => [c])).map fun t => t.headD 0).map fun c => [c] := by
    rw [List.map_map]
    refine (List.map_id _).symm.trans (List.map_congr_left fun t ht => ?_)
    obtain ⟨c, _, rfl⟩ := List.mem_map.mp (hp.mem_iff.mp ht)
    rfl
  refine ⟨_, e, ?_, ?_⟩
  · have := hp.map fun t => t.headD 0
    rw [List.map_map] at this
    have e2 : ((fun t : Tx => t.headD 0) ∘ fun c => [c]) = id := rfl
    rw [e2, List.map_id] at this
    exact this
  · rw [e, List.pairwise_map] at hs
    exact hs.imp fun {a b} h => by
      rw [lt_one] at h
      omega
theorem pw_le_nodup {l : List Nat} (h : l.Pairwise (· ≤ ·)) (n : l.Nodup) : l.Pairwise (· < ·) := (h.and n).imp fun {a b} ⟨h1, h2⟩ => by omega
theorem take_lt {zs : List Nat} (h : zs.Pairwise (· < ·)) {i : Nat} (hi : i < zs.length) : ∀ c ∈ zs.take i, c < zs[i] := by
  intro c hc
  obtain ⟨j, hj, rfl⟩ := List.mem_iff_getElem.mp hc
  rw [List.length_take] at hj
  rw [List.getElem_take]
  exact List.pairwise_iff_getElem.mp h j i (by omega) hi (by omega)
end Fc
end
section
namespace Fc
open PySem PySem.Spec PyProof.Rows L2 Dl
open Evl (Ex)
/-! ### values of the laws -/
def okD : Nat → Nat → PyData → Prop
  | _, _, .none => True
  | _, _, .bool _ => True
  | _, _, .int _ => True
  | _, n, .str s => s.cps.toList.length ≤ n ∧ ∀ c ∈ s.cps.toList, c < 128 ∧ c ≠ 37
  | k + 1, n, .list ds => ds.length ≤ n ∧ ∀ d ∈ ds, okD k n d
  | k + 1, n, .tuple ds => ds.length ≤ n ∧ ∀ d ∈ ds, okD k n d
  | _, _, _ => False
theorem okD_up : ∀ {k n k' n' : Nat} {d : PyData}, k ≤ k' → n ≤ n' → okD k n d → okD k' n' d
  | _, _, _, _, .none, _, _, _ => by unfold okD; trivial
  | _, _, _, _, .bool _, _, _, _ => by unfold okD; trivial
  | _, _, _, _, .int _, _, _, _ => by unfold okD; trivial
  | _, _, _, _, .str s, _, h, g => by
    unfold okD at g ⊢
    exact ⟨Nat.le_trans g.1 h, g.2⟩
  | 0, _, _, _, .list ds, _, _, g => by unfold okD at g; exact g.elim
  | 0, _, _, _, .tuple ds, _, _, g => by unfold okD at g; exact g.elim
  | k + 1, n, 0, n', .list ds, h, _, _ => by omega
  | k + 1, n, 0, n', .tuple ds, h, _, _ => by omega
  | k + 1, n, k' + 1, n', .list ds, h, h2, g => by
    unfold okD at g ⊢
    exact ⟨Nat.le_trans g.1 h2, fun d hd => okD_up (by omega) h2 (g.2 d hd)⟩
  | k + 1, n, k' + 1, n', .tuple ds, h, h2, g => by
    unfold okD at g ⊢
    exact ⟨Nat.le_trans g.1 h2, fun d hd => okD_up (by omega) h2 (g.2 d hd)⟩
  | 0, _, _, _, .dict _, _, _, g => by unfold okD at g; exact g.elim
  | k + 1, _, _, _, .dict _, _, _, g => by unfold okD at g; exact g.elim
theorem okD_tup {k n : Nat} {ds : List PyData} (h : okD k n (.tuple ds)) : ds.length ≤ n ∧ ∀ d ∈ ds, okD (k - 1) n d := by
  cases k with
  | zero => unfold okD at h; exact h.elim
  | succ k => unfold okD at h; exact h
theorem okD_lst {k n : Nat} {ds : List PyData} (h : okD k n (.list ds)) : ds.length ≤ n ∧ ∀ d ∈ ds, okD (k - 1) n d := by
  cases k with
  | zero => unfold okD at h; exact h.elim
  | succ k => unfold okD at h; exact h
theorem okD_str {k n : Nat} {l : List Nat} : okD k n (dS l) ↔ l.length ≤ n ∧ ∀ c ∈ l, c < 128 ∧ c ≠ 37 := by
  cases k <;> simp [okD]
theorem okD_mkT {k n : Nat} {ds : List PyData} (h : ds.length ≤ n) (h2 : ∀ d ∈ ds, okD k n d) : okD (k + 1) n (.tuple ds) := by unfold okD; exact ⟨h, h2⟩
theorem okD_mkL {k n : Nat} {ds : List PyData} (h : ds.length ≤ n) (h2 : ∀ d ∈ ds, okD k n d) : okD (k + 1) n (.list ds) := by unfold okD; exact ⟨h, h2⟩
mutual
theorem okD_pl : ∀ {k n : Nat} {d : PyData}, okD k n d → nod d = true ∧ d.canLay0 = true ∧ d.depth ≤ k + 1
  | _, _, .none, _ => ⟨rfl, by simp [PyData.canLay0], by simp [PyData.depth]⟩
  | _, _, .bool _, _ => ⟨rfl, by simp [PyData.canLay0], by simp [PyData.depth]⟩
  | _, _, .int _, _ => ⟨rfl, by simp [PyData.canLay0], by simp [PyData.depth]⟩
  | k, n, .str s, h => by
    refine ⟨rfl, ?_, by simp [PyData.depth]⟩
    have g : s.cps.toList.length ≤ n ∧ ∀ c ∈ s.cps.toList, c < 128 ∧ c ≠ 37 := by cases k <;> simpa [okD] using h
    simp only [PyData.canLay0]
    unfold PyData.strOk
    rw [Array.all_eq_true]
    intro i hi
    have := (g.2 s.cps[i] (by simp)).1
    simp only [decide_eq_true_eq]
    omega
  | 0, _, .list ds, h => by unfold okD at h; exact h.elim
  | 0, _, .tuple ds, h => by unfold okD at h; exact h.elim
  | k + 1, n, .list ds, h => by
    unfold okD at h
    obtain ⟨a, b, c⟩ := okDs_pl ds h.2
    exact ⟨by unfold nod; exact a, by simp only [PyData.canLay0]; exact b, by simp only [PyData.depth]; omega⟩
  | k + 1, n, .tuple ds, h => by
    unfold okD at h
    obtain ⟨a, b, c⟩ := okDs_pl ds h.2
    exact ⟨by unfold nod; exact a, by simp only [PyData.canLay0]; exact b, by simp only [PyData.depth]; omega⟩
  | 0, _, .dict _, h => by unfold okD at h; exact h.elim
  | _ + 1, _, .dict _, h => by unfold okD at h; exact h.elim
theorem okDs_pl : ∀ {k n : Nat} (ds : List PyData), (∀ d ∈ ds, okD k n d) → nods ds = true ∧ PyData.canLayAll0 ds = true ∧ PyData.depthAll ds ≤ k + 1
  | _, _, [], _ => ⟨rfl, by simp [PyData.canLayAll0], by simp [PyData.depthAll]⟩
  | k, n, d :: ds, h => by
    obtain ⟨a, b, c⟩ := okD_pl (h d List.mem_cons_self)
    obtain ⟨a', b', c'⟩ := okDs_pl ds fun e he => h e (List.mem_cons_of_mem _ he)
    exact ⟨by unfold nods; rw [a, a']; rfl, by simp only [PyData.canLayAll0]; rw [b, b']; rfl, by simp only [PyData.depthAll]; omega⟩
end
theorem ok_pl {k n : Nat} {d : PyData} (h : okD k n d) (hk : k ≤ 60) : pl d = true := by
  obtain ⟨a, b, c⟩ := okD_pl h
  unfold pl SeqAt.shaped
  rw [a, b, decide_eq_true (by omega)]
  rfl
def SGN : List Nat := [32, 33, 34, 35, 36, 38, 39, 40, 41, 42, 43, 44, 45, 46, 47, 48, 49, 50, 51, 52, 53, 54, 55, 56, 57, 58, 59, 60, 61, 62, 63, 64, 65, 66, 67, 68, 69, 70, 71, 72, 73, 74, 75, 76, 77, 78, 79, 80, 81, 82, 83, 84, 85, 86, 87, 88, 89, 90, 91, 92, 93, 94, 95, 96, 97, 98, 99, 100, 101, 102, 103, 104, 105, 106, 107, 108, 109, 110, 111, 112, 113, 114, 115, 116, 117, 118, 119, 120, 121, 122, 123, 124, 125, 126]
theorem sgn_lt : ∀ c ∈ SGN, c < 127 := by decide +kernel
theorem sgn_small : ∀ c < 127, decide (c ∈ SGN) = (decide (32 ≤ c) && decide (c ≠ 37)) := by decide +kernel
theorem sgn_iff {c : Nat} (h : c ≠ 37) : decide (c ∈ SGN) = (decide (32 ≤ c) && decide (c ≤ 126)) := by
  rcases Nat.lt_or_ge c 127 with g | g
  · rw [sgn_small c g, decide_eq_true h, Bool.and_true, decide_eq_true (by omega : c ≤ 126), Bool.and_true]
  · rw [decide_eq_false (fun z => by have := sgn_lt c z; omega), decide_eq_false (by omega : ¬ c ≤ 126), Bool.and_false]
def isSgs (d : PyData) (lo hi : Nat) : Bool := match d with
  | .str s => decide (lo ≤ s.cps.toList.length) && (decide (s.cps.toList.length ≤ hi) && s.cps.toList.all fun c => decide (c ∈ SGN))
  | _ => false
theorem isi_str {d : PyData} : isi d "str" = true ↔ ∃ l, d = dS l := by
  constructor
  · intro h
    cases d <;> simp [isi, tyN] at h
    rename_i s
    exact ⟨s.cps.toList, by cases s; rfl⟩
  · rintro ⟨l, rfl⟩
    rfl
theorem isi_tup {d : PyData} : isi d "tuple" = true ↔ ∃ ds, d = .tuple ds := by
  constructor
  · intro h
    cases d <;> simp [isi, tyN] at h
    exact ⟨_, rfl⟩
  · rintro ⟨l, rfl⟩
    rfl
theorem isi_lst {d : PyData} : isi d "list" = true ↔ ∃ ds, d = .list ds := by
  constructor
  · intro h
    cases d <;> simp [isi, tyN] at h
    exact ⟨_, rfl⟩
  · rintro ⟨l, rfl⟩
    rfl
theorem isSgs_no {d : PyData} {lo hi : Nat} (h : isi d "str" = false) : isSgs d lo hi = false := by
  cases d <;> first | rfl | (simp [isi, tyN] at h)
theorem isSgs_S {l : List Nat} {lo hi : Nat} : isSgs (dS l) lo hi = (decide (lo ≤ l.length) && (decide (l.length ≤ hi) && l.all fun c => decide (c ∈ SGN))) := by simp [isSgs]
theorem range_map {α β : Type} (l : List α) (d : α) (f : α → β) : (List.range l.length).map (fun i => f (l.getD i d)) = l.map f := by
  refine List.ext_getElem (by simp) fun i h1 h2 => ?_
  have hi : i < l.length := by simpa using h2
  simp [List.getD_eq_getElem?_getD, hi]
section
variable {P : Program} {w : World} {K : PySem.W.Frag} {mg : Str → Option Value} {base : Heap}
/-! ### of_signs -/
def tSigns : DSp := fun ks B q _ => ∃ d, ∃ k n lo hi : Nat, ks = [.dat d, .dat (.int lo), .dat (.int hi)] ∧ B = [] ∧ okD k n d ∧ n ≤ 100000 ∧ q (.dat (.bool (isSgs d lo hi))) []
abbrev nSigns : List Str := ["value", "least", "most", "sign"]
theorem sc_signs : FnScope nSigns ["value", "least", "most"] (defScope s_signs) := ⟨rfl, rfl, rfl, by decide +kernel, rfl, by decide +kernel, by decide +kernel⟩
theorem c_signs (D : Dfn K mg "of_signs" s_signs) (b : Bn mg) (gS : ∃ t, mg "SIGNS" = some (.str (sL SGN) t)) : Cal P w K mg base "of_signs" 1 ["value", "least", "most"] tSigns := by
  refine cal_of D sc_signs (fun _ _ _ _ _ _ us hl => match us, hl with | [_, _, _], _ => rfl) (fun ks B k R ⟨a, _, _, _, _, h, _⟩ => by rw [h]; rfl) ?_
  rintro f cdv A outer s H E ks B q R hr ⟨d, k, n, lo, hi, rfl, rfl, hd, hn, h⟩
  cases hs : isi d "str" with
  | false =>
    refine sj_ret (ev_and (b2 := false) (ev_isi (ev_v 0) (ev_ty rfl b.str boot_str) (by decide) b.isi) (fun h1 => by rw [hs] at h1; cases h1) (fun _ => rfl)) (fin0 ?_)
    rw [Bool.and_false, ← isSgs_no (lo := lo) (hi := hi) hs]
    exact h
  | true =>
    obtain ⟨l, rfl⟩ := isi_str.mp hs
    have hl := okD_str.mp hd
    refine sj_ret (ev_and (ev_isi (ev_v 0) (ev_ty rfl b.str boot_str) (by decide) b.isi) (fun h1 => ev_and (ev_chainI (ev_v 1) (ev_lenS (ev_v 0) (by omega) b.len) (ev_v 2)) (fun _ => ev_one (ev_all (bs := l.map fun c => decide (c ∈ SGN)) (en_lj (lj_map1 3 (fun i => .bool (decide (l.getD i 0 ∈ SGN))) (blkOk_by (N := nSigns) (sc := defScope s_signs) (own := [("sign", 3)]) (by decide +kernel)) sc_signs.nd (ij_str (ev_v 0)) (by omega)
      (fun i hi s H C cl fp => ev_inSign (ev_v 3) (ev_globS rfl gS))) sc_signs.nd rfl) ?_ rfl b.all)) (fun _ => rfl)) (fun _ => rfl)) (fin0 ?_)
    · rw [range_map l 0 (fun c => PyData.bool (decide (c ∈ SGN))), List.map_map]
      rfl
    · rw [isSgs_S] at h
      have e : (isi (dS l) "str" && ((decide ((lo : Int) ≤ l.length) && decide ((l.length : Int) ≤ hi)) && (l.map fun c => decide (c ∈ SGN)).all id)) = (decide (lo ≤ l.length) && (decide (l.length ≤ hi) && l.all fun c => decide (c ∈ SGN))) := by
        rw [hs, Bool.true_and, Bool.and_assoc, List.all_map]
        simp only [Int.ofNat_le]
        rfl
      rw [e]
      exact h
end
end Fc
end
section
namespace Fc
open PySem PySem.Spec PyProof.Rows L2 Dl
open Evl (Ex)
def pOk (q : Nat × Tx) : Prop := q.1 ∈ SGN ∧ 1 ≤ q.2.length ∧ q.2.length ≤ 6 ∧ ∀ c ∈ q.2, c ∈ SGN
def PPair (d : PyData) : Prop := ∃ q, d = pairD q ∧ pOk q
def PLay (d : PyData) : Prop := ∃ L : Lay, d = layD L ∧ L.length ≤ 8 ∧ (∀ q ∈ L, pOk q) ∧ (L.map (·.1)).Pairwise (· < ·)
def PStk (d : PyData) : Prop := ∃ ds, d = .tuple ds ∧ ds.length ≤ 5 ∧ ∀ e ∈ ds, PLay e
noncomputable def prB (d : PyData) : Bool := @decide (PPair d) (Classical.propDecidable _)
noncomputable def layB (d : PyData) : Bool := @decide (PLay d) (Classical.propDecidable _)
noncomputable def stkB (d : PyData) : Bool := @decide (PStk d) (Classical.propDecidable _)
theorem prB_iff {d : PyData} : prB d = true ↔ PPair d := by unfold prB; exact @decide_eq_true_iff _ (Classical.propDecidable _)
theorem layB_iff {d : PyData} : layB d = true ↔ PLay d := by unfold layB; exact @decide_eq_true_iff _ (Classical.propDecidable _)
theorem stkB_iff {d : PyData} : stkB d = true ↔ PStk d := by unfold stkB; exact @decide_eq_true_iff _ (Classical.propDecidable _)
theorem bool_of {b c : Bool} (h : b = true ↔ c = true) : b = c := by cases b <;> cases c <;> simp_all
theorem isSgs_one {d : PyData} : isSgs d 1 1 = true ↔ ∃ c, d = dS [c] ∧ c ∈ SGN := by
  constructor
  · intro h
    cases hs : isi d "str" with
    | false => rw [isSgs_no hs] at h; cases h
    | true =>
      obtain ⟨l, rfl⟩ := isi_str.mp hs
      rw [isSgs_S] at h
      simp only [Bool.and_eq_true, decide_eq_true_eq, List.all_eq_true] at h
      obtain ⟨h1, h2, h3⟩ := h
      obtain ⟨c, rfl⟩ := List.length_eq_one_iff.mp (by omega : l.length = 1)
      exact ⟨c, rfl, h3 c (by simp)⟩
  · rintro ⟨c, rfl, h⟩
    rw [isSgs_S]
    simp [h]
theorem isSgs_six {d : PyData} : isSgs d 1 6 = true ↔ ∃ t : Tx, d = dS t ∧ 1 ≤ t.length ∧ t.length ≤ 6 ∧ ∀ c ∈ t, c ∈ SGN := by
  constructor
  · intro h
    cases hs : isi d "str" with
    | false => rw [isSgs_no hs] at h; cases h
    | true =>
      obtain ⟨l, rfl⟩ := isi_str.mp hs
      rw [isSgs_S] at h
      simp only [Bool.and_eq_true, decide_eq_true_eq, List.all_eq_true] at h
      exact ⟨l, rfl, h⟩
  · rintro ⟨t, rfl, h1, h2, h3⟩
    rw [isSgs_S]
    simp only [Bool.and_eq_true, decide_eq_true_eq, List.all_eq_true]
    exact ⟨h1, h2, h3⟩
theorem prB_two {a b : PyData} : (isSgs a 1 1 && isSgs b 1 6) = prB (.tuple [a, b]) := by
  refine bool_of ?_
  rw [Bool.and_eq_true, isSgs_one, isSgs_six, prB_iff]
  constructor
  · rintro ⟨⟨c, rfl, hc⟩, t, rfl, h1, h2, h3⟩
    exact ⟨(c, t), rfl, hc, h1, h2, h3⟩
  · rintro ⟨⟨c, t⟩, e, hc, h1, h2, h3⟩
    simp only [pairD, PyData.tuple.injEq, List.cons.injEq, and_true] at e
    obtain ⟨rfl, rfl⟩ := e
    exact ⟨⟨c, rfl, hc⟩, t, rfl, h1, h2, h3⟩
theorem prB_tup {d : PyData} (h : isi d "tuple" = false) : prB d = false := by
  rw [← Bool.not_eq_true, prB_iff]
  rintro ⟨q, rfl, _⟩
  simp [pairD, isi, tyN] at h
theorem prB_len {ds : List PyData} (h : ds.length ≠ 2) : prB (.tuple ds) = false := by
  rw [← Bool.not_eq_true, prB_iff]
  rintro ⟨q, e, _⟩
  simp only [pairD, PyData.tuple.injEq] at e
  rw [e] at h
  exact h rfl
theorem layB_tup {d : PyData} (h : isi d "tuple" = false) : layB d = false := by
  rw [← Bool.not_eq_true, layB_iff]
  rintro ⟨q, rfl, _⟩
  simp [layD, isi, tyN] at h
theorem stkB_tup {d : PyData} (h : isi d "tuple" = false) : stkB d = false := by
  rw [← Bool.not_eq_true, stkB_iff]
  rintro ⟨q, rfl, _⟩
  simp [isi, tyN] at h
theorem layB_len {ds : List PyData} (h : 8 < ds.length) : layB (.tuple ds) = false := by
  rw [← Bool.not_eq_true, layB_iff]
  rintro ⟨L, e, hl, _⟩
  simp only [layD, PyData.tuple.injEq] at e
  rw [e, List.length_map] at h
  omega
theorem layB_pr {ds : List PyData} {d : PyData} (hd : d ∈ ds) (h : prB d = false) : layB (.tuple ds) = false := by
  rw [← Bool.not_eq_true, layB_iff]
  rintro ⟨L, e, hl, hp, _⟩
  simp only [layD, PyData.tuple.injEq] at e
  rw [e] at hd
  obtain ⟨q, hq, rfl⟩ := List.mem_map.mp hd
  rw [← Bool.not_eq_true, prB_iff] at h
  exact h ⟨q, rfl, hp q hq⟩
theorem prs_lay : ∀ {ds : List PyData}, (∀ d ∈ ds, prB d = true) → ∃ L : Lay, ds = L.map pairD ∧ ∀ q ∈ L, pOk q
  | [], _ => ⟨[], rfl, fun _ h => (nomatch h)⟩
  | d :: ds, h => by
    obtain ⟨q, rfl, hq⟩ := prB_iff.mp (h d List.mem_cons_self)
    obtain ⟨L, rfl, hL⟩ := prs_lay fun e he => h e (List.mem_cons_of_mem _ he)
    exact ⟨q :: L, rfl, fun r hr => by
      rcases List.mem_cons.mp hr with rfl | hr
      · exact hq
      · exact hL r hr⟩
theorem pairD_inj {p q : Nat × Tx} (h : pairD p = pairD q) : p = q := by
  simp only [pairD, PyData.tuple.injEq, List.cons.injEq, PyData.str.injEq, and_true] at h
  have h1 := sL_inj h.1
  have h2 := sL_inj h.2
  cases p
  cases q
  simp at h1 h2
  rw [h1, h2]
theorem layD_inj : ∀ {L M : Lay}, L.map pairD = M.map pairD → L = M
  | [], [], _ => rfl
  | [], _ :: _, h => by simp at h
  | _ :: _, [], h => by simp at h
  | p :: L, q :: M, h => by
    rw [List.map_cons, List.map_cons] at h
    obtain ⟨h1, h2⟩ := List.cons.inj h
    rw [pairD_inj h1, layD_inj h2]
theorem layB_L {L : Lay} (h8 : L.length ≤ 8) (hp : ∀ q ∈ L, pOk q) : layB (layD L) = decide ((L.map (·.1)).Pairwise (· < ·)) := by
  refine bool_of ?_
  rw [layB_iff, decide_eq_true_iff]
  constructor
  · rintro ⟨M, e, _, _, h⟩
    simp only [layD, PyData.tuple.injEq] at e
    rw [layD_inj e]
    exact h
  · exact fun h => ⟨L, rfl, h8, hp, h⟩
theorem adj_pw (l : List Nat) : (∀ i, i + 1 < l.length → l.getD i 0 < l.getD (i + 1) 0) ↔ l.Pairwise (· < ·) := by
  constructor
  · intro h
    rw [List.pairwise_iff_getElem]
    have g : ∀ m i, i + (m + 1) < l.length → l.getD i 0 < l.getD (i + (m + 1)) 0 := by
      intro m
      induction m with
      | zero => exact fun i hi => h i hi
      | succ m ih =>
        intro i hi
        have h1 := ih i (by omega)
        have h2 := h (i + (m + 1)) (by omega)
        exact Nat.lt_trans h1 h2
    intro i j hi hj hij
    have := g (j - i - 1) i (by omega)
    rw [show i + (j - i - 1 + 1) = j by omega] at this
    simpa [List.getD_eq_getElem?_getD, hi, hj] using this
  · intro h i hi
    rw [List.pairwise_iff_getElem] at h
    have := h i (i + 1) (by omega) hi (by omega)
    simpa [List.getD_eq_getElem?_getD, hi, (by omega : i < l.length)] using this
section
variable {P : Program} {w : World} {K : PySem.W.Frag} {mg : Str → Option Value} {base : Heap}
/-! ### is_pair -/
abbrev CSig (P : Program) (w : World) (K : PySem.W.Frag) (mg : Str → Option Value) (base : Heap) : Prop := Cal P w K mg base "of_signs" 1 ["value", "least", "most"] tSigns
def tPr : DSp := fun ks B q _ => ∃ d, ∃ k n : Nat, ks = [.dat d] ∧ B = [] ∧ okD k n d ∧ n ≤ 100000 ∧ q (.dat (.bool (prB d))) []
theorem sc_pair : FnScope ["value"] ["value"] (defScope s_pair) := ⟨rfl, rfl, rfl, by decide +kernel, rfl, by decide +kernel, by decide +kernel⟩
theorem c_pair (D : Dfn K mg "is_pair" s_pair) (b : Bn mg) (c1 : CSig P w K mg base) : Cal P w K mg base "is_pair" 2 ["value"] tPr := by
  refine cal_of D sc_pair (fun _ _ _ _ _ _ us hl => match us, hl with | [_], _ => rfl) (fun ks B k R ⟨a, _, _, h, _⟩ => by rw [h]; rfl) ?_
  rintro f cdv A outer s H E ks B q R hr ⟨d, k, n, rfl, rfl, hd, hn, h⟩
  cases hs : isi d "tuple" with
  | false =>
    refine sj_ifR (wv_or (b2 := true) (tv_not (tv_e (ev_isi (ev_v 0) (ev_t b.tuple boot_tuple) (by decide) b.isi))) (fun h1 => by rw [hs] at h1; cases h1) (fun _ => rfl)).tv (fun h1 => ?_) (fun h1 => by rw [hs] at h1; cases h1)
    rw [prB_tup hs] at h
    exact sj_ret ev_bl (fin0 h)
  | true =>
    obtain ⟨ds, rfl⟩ := isi_tup.mp hs
    obtain ⟨hl, he⟩ := okD_tup hd
    refine sj_ifR (wv_or (tv_not (tv_e (ev_isi (ev_v 0) (ev_t b.tuple boot_tuple) (by decide) b.isi))) (fun h1 => wv_or1 (tv_neI hr (ev_lenT (ev_v 0) b.len) ev_int)) (fun _ => rfl)).tv (fun h1 => ?_) (fun h1 => ?_)
    · rw [hs] at h1
      have : ds.length ≠ 2 := fun z => by rw [z] at h1; simp at h1
      rw [prB_len this] at h
      exact sj_ret ev_bl (fin0 h)
    · rw [hs] at h1
      have : ds.length = 2 := by
        have := h1
        simp at this
        omega
      obtain ⟨x, y, rfl⟩ : ∃ x y, ds = [x, y] := match ds, this with | [x, y], _ => ⟨x, y, rfl⟩
      refine sj_ret (ev_and (ev_cal c1 hr (Nat.le_refl _) (av_cons (ev_ixT (ev_v 0) ev_int (d := x) rfl) (av_cons ev_int (av_cons ev_int av_nil))) ⟨x, k - 1, n, 1, 1, rfl, rfl, he x (by simp), hn, rfl, rfl⟩)
        (fun _ => ev_one (ev_cal c1 hr (Nat.le_refl _) (av_cons (ev_ixT (ev_v 0) ev_int (d := y) rfl) (av_cons ev_int (av_cons ev_int av_nil))) ⟨y, k - 1, n, 1, 6, rfl, rfl, he y (by simp), hn, rfl, rfl⟩)) (fun _ => rfl)) (fin0 ?_)
      rw [prB_two]
      exact h
/-! ### is_layer -/
def tIsLay : DSp := fun ks B q _ => ∃ d, ∃ k n : Nat, ks = [.dat d] ∧ B = [] ∧ okD k n d ∧ n ≤ 100000 ∧ q (.dat (.bool (layB d))) []
abbrev nIsLay : List Str := ["value", "pair", "one", "other"]
theorem sc_islay : FnScope nIsLay ["value"] (defScope s_islay) := ⟨rfl, rfl, rfl, by decide +kernel, rfl, by decide +kernel, by decide +kernel⟩
theorem c_islay (D : Dfn K mg "is_layer" s_islay) (b : Bn mg) (c1 : Cal P w K mg base "is_pair" 2 ["value"] tPr) : Cal P w K mg base "is_layer" 3 ["value"] tIsLay := by
  refine cal_of D sc_islay (fun _ _ _ _ _ _ us hl => match us, hl with | [_], _ => rfl) (fun ks B k R ⟨a, _, _, h, _⟩ => by rw [h]; rfl) ?_
  rintro f cdv A outer s H E ks B q R hr ⟨d, k, n, rfl, rfl, hd, hn, h⟩
  cases hs : isi d "tuple" with
  | false =>
    refine sj_ifR (wv_or (b2 := true) (tv_not (tv_e (ev_isi (ev_v 0) (ev_t b.tuple boot_tuple) (by decide) b.isi))) (fun h1 => by rw [hs] at h1; cases h1) (fun _ => rfl)).tv (fun h1 => ?_) (fun h1 => by rw [hs] at h1; cases h1)
    rw [layB_tup hs] at h
    exact sj_ret ev_bl (fin0 h)
  | true =>
    obtain ⟨ds, rfl⟩ := isi_tup.mp hs
    obtain ⟨hl, he⟩ := okD_tup hd
    have hget : ∀ i, i < ds.length → okD (k - 1) n (ds.getD i .none) := fun i hi => by
      rw [List.getD_eq_getElem?_getD, List.getElem?_eq_getElem hi]
      exact he _ (List.getElem_mem hi)
    have hbs : (List.range ds.length).map (fun i => PyData.bool (prB (ds.getD i .none))) = (ds.map prB).map PyData.bool := by
      rw [range_map ds .none (fun d => PyData.bool (prB d)), List.map_map]
      rfl
    refine sj_ifR (wv_or (tv_not (tv_e (ev_isi (ev_v 0) (ev_t b.tuple boot_tuple) (by decide) b.isi))) (fun _ => wv_or (tv_gt (ev_lenT (ev_v 0) b.len) ev_int) (fun _ => wv_or1 (tv_not (tv_e (ev_all (bs := ds.map prB) (en_lj (lj_map1 1 (fun i => .bool (prB (ds.getD i .none))) (blkOk_by (N := nIsLay) (sc := defScope s_islay) (own := [("pair", 1)]) (by decide +kernel)) sc_islay.nd (ij_tup (ev_v 0)) (by omega)
      (fun i hi s H C cl fp => ev_cal c1 hr (Nat.le_refl _) (av_cons (ev_v 1) av_nil) ⟨ds.getD i .none, k - 1, n, rfl, rfl, hget i hi, hn, rfl, rfl⟩)) sc_islay.nd rfl) hbs rfl b.all)))) (fun _ => rfl)) (fun _ => rfl)).tv (fun h1 => ?_) (fun h1 => ?_)
    · rw [hs] at h1
      refine sj_ret ev_bl (fin0 ?_)
      have e : layB (.tuple ds) = false := by
        rcases Nat.lt_or_ge 8 ds.length with g | g
        · exact layB_len g
        · have h2 : ((ds.map prB).all id) = false := by
            have g' : ¬ (8 : Int) < ds.length := by omega
            simpa [g'] using h1
          rw [List.all_map] at h2
          obtain ⟨x, hx, hb⟩ := List.all_eq_false.mp h2
          exact layB_pr hx (by simpa using hb)
      rw [e] at h
      exact h
    · rw [hs] at h1
      simp only [Bool.not_true, Bool.false_or, Bool.or_eq_false_iff, decide_eq_false_iff_not, Bool.not_eq_false'] at h1
      obtain ⟨h8, hall⟩ := h1
      rw [List.all_map, List.all_eq_true] at hall
      obtain ⟨L, rfl, hL⟩ := prs_lay (fun d hd => hall d hd)
      rw [List.length_map] at h8 hl
      have hg : ∀ j, j < L.length → (L.map pairD).getD j .none = .tuple [dS [(L.map (·.1)).getD j 0], dS ((L.map (·.2)).getD j [])] := fun j hj => by
        simp [List.getD_eq_getElem?_getD, hj, pairD]
      have hcut : cut (L.map pairD) (some 1) none = (L.drop 1).map pairD := by
        unfold cut
        rw [List.length_map, show HT.sIx L.length 0 (some 1) = min 1 L.length from HT.sIx_nat L.length 0 1, HT.sIx_none]
        rw [← List.map_drop, ← List.map_take]
        congr 1
        rcases Nat.eq_zero_or_pos L.length with z | z
        · rw [List.eq_nil_of_length_eq_zero z]; rfl
        · rw [show min 1 L.length = 1 by omega, List.take_of_length_le (by rw [List.length_drop]; omega)]
      refine sj_ret (ev_all (bs := (List.range (L.length - 1)).map fun i => decide ((L.map (·.1)).getD i 0 < (L.map (·.1)).getD (i + 1) 0)) (en_lj (lj_map2 2 3 (d1 := fun i => (L.map pairD).getD i .none) (d2 := fun i => (cut (L.map pairD) (some 1) none).getD i .none)
        (fun i => .bool (decide ((L.map (·.1)).getD i 0 < (L.map (·.1)).getD (i + 1) 0))) (blkOk_by (N := nIsLay) (sc := defScope s_islay) (own := [("one", 2), ("other", 3)]) (by decide +kernel)) sc_islay.nd (ij_zipT (ev_v 0) (ev_slT (ev_v 0) (op_some ev_int) op_none) b.zip) (fun i hi => .inl rfl) ?_ (fun i hi s H C cl fp => ?_)) sc_islay.nd rfl) ?_ rfl b.all) (fin0 ?_)
      · rw [List.length_map]; omega
      · rw [hcut, List.length_map, List.length_map, List.length_drop] at hi
        have e1 := hg i (by omega)
        have e2 : (cut (L.map pairD) (some 1) none).getD i .none = .tuple [dS [(L.map (·.1)).getD (i + 1) 0], dS ((L.map (·.2)).getD (i + 1) [])] := by
          rw [hcut, ← hg (i + 1) (by omega)]
          simp [List.getD_eq_getElem?_getD, List.map_drop]
        have e3 : decide ((L.map (·.1)).getD i 0 < (L.map (·.1)).getD (i + 1) 0) = decide (([(L.map (·.1)).getD i 0] : Tx) < [(L.map (·.1)).getD (i + 1) 0]) := by
          rw [decide_eq_decide]
          exact (lt_one _ _).symm
        rw [e1, e2, e3]
        exact ev_slt (ev_ixT (ev_v 2) ev_int rfl) (ev_ixT (ev_v 3) ev_int rfl)
      · rw [hcut, List.length_map, List.length_map, List.length_drop, List.map_map, show min L.length (L.length - 1) = L.length - 1 by omega]
        rfl
      · have e : layB (.tuple (L.map pairD)) = ((List.range (L.length - 1)).map fun i => decide ((L.map (·.1)).getD i 0 < (L.map (·.1)).getD (i + 1) 0)).all id := by
          have := layB_L (L := L) (by omega) hL
          refine this.trans (bool_of ?_)
          rw [decide_eq_true_iff, ← adj_pw, List.all_map, List.all_eq_true, List.length_map]
          constructor
          · intro h i hi
            exact decide_eq_true (h i (by have := List.mem_range.mp hi; omega))
          · intro h i hi
            exact of_decide_eq_true (h i (List.mem_range.mpr (by omega)))
        rw [e] at h
        exact h
end
end Fc
end
section
namespace Fc
open PySem PySem.Spec PyProof.Rows L2 Dl
open Evl (Ex)
theorem eqv_nil {xs : List PyData} : PyData.eqv (.list xs) (.list []) = xs.isEmpty := by cases xs <;> simp [PyData.eqv, PyData.eqvAll]
theorem eqvAll_strs : ∀ xs ys : List Tx, PyData.eqvAll (xs.map dS) (ys.map dS) = decide (xs = ys)
  | [], [] => by simp [PyData.eqvAll]
  | [], y :: ys => by simp [PyData.eqvAll]
  | x :: xs, [] => by simp [PyData.eqvAll]
  | x :: xs, y :: ys => by
    rw [List.map_cons, List.map_cons]
    simp only [PyData.eqvAll, PyData.eqv]
    rw [eqvAll_strs xs ys]
    have : ((sL x == sL y) : Bool) = decide (x = y) := by
      rw [Bool.eq_iff_iff]
      simp
    rw [this]
    by_cases h : x = y <;> by_cases g : xs = ys <;> simp [h, g]
theorem eqv_strs (xs ys : List Tx) : PyData.eqv (.list (xs.map dS)) (.list (ys.map dS)) = decide (xs = ys) := by
  simp only [PyData.eqv]
  exact eqvAll_strs xs ys
theorem filter_range_map {α β : Type} (l : List α) (d : α) (t : α → Bool) (f : α → β) : ((List.range l.length).filter fun i => t (l.getD i d)).map (fun i => f (l.getD i d)) = (l.filter t).map f := by
  have h := range_map l d id
  have e : (List.range l.length).map (fun i => l.getD i d) = l := by simpa using h
  have : l.filter t = (((List.range l.length).filter fun i => t (l.getD i d)).map fun i => l.getD i d) := by
    conv => lhs; rw [← e]
    rw [List.filter_map]
    rfl
  rw [this, List.map_map]
  rfl
section
variable {P : Program} {w : World} {K : PySem.W.Frag} {mg : Str → Option Value} {base : Heap}
/-! ### is_stack -/
def tIsStk : DSp := fun ks B q _ => ∃ d, ∃ k n : Nat, ks = [.dat d] ∧ B = [] ∧ okD k n d ∧ n ≤ 100000 ∧ q (.dat (.bool (stkB d))) []
abbrev nIsStk : List Str := ["value", "layer"]
theorem sc_isstk : FnScope nIsStk ["value"] (defScope s_isstk) := ⟨rfl, rfl, rfl, by decide +kernel, rfl, by decide +kernel, by decide +kernel⟩
theorem stkB_T {ds : List PyData} : stkB (.tuple ds) = (decide (ds.length ≤ 5) && ds.all layB) := by
  refine bool_of ?_
  rw [stkB_iff, Bool.and_eq_true, decide_eq_true_iff, List.all_eq_true]
  constructor
  · rintro ⟨es, e, h1, h2⟩
    simp only [PyData.tuple.injEq] at e
    subst e
    exact ⟨h1, fun x hx => layB_iff.mpr (h2 x hx)⟩
  · rintro ⟨h1, h2⟩
    exact ⟨ds, rfl, h1, fun x hx => layB_iff.mp (h2 x hx)⟩
theorem c_isstk (D : Dfn K mg "is_stack" s_isstk) (b : Bn mg) (gM : ∃ t, mg "MAX_LAYERS" = some (.int 5 t)) (c1 : Cal P w K mg base "is_layer" 3 ["value"] tIsLay) : Cal P w K mg base "is_stack" 4 ["value"] tIsStk := by
  refine cal_of D sc_isstk (fun _ _ _ _ _ _ us hl => match us, hl with | [_], _ => rfl) (fun ks B k R ⟨a, _, _, h, _⟩ => by rw [h]; rfl) ?_
  rintro f cdv A outer s H E ks B q R hr ⟨d, k, n, rfl, rfl, hd, hn, h⟩
  cases hs : isi d "tuple" with
  | false =>
    refine sj_ret (ev_and (b2 := false) (ev_isi (ev_v 0) (ev_t b.tuple boot_tuple) (by decide) b.isi) (fun h1 => by rw [hs] at h1; cases h1) (fun _ => rfl)) (fin0 ?_)
    rw [Bool.and_false, ← stkB_tup hs]
    exact h
  | true =>
    obtain ⟨ds, rfl⟩ := isi_tup.mp hs
    obtain ⟨hl, he⟩ := okD_tup hd
    have hget : ∀ i, i < ds.length → okD (k - 1) n (ds.getD i .none) := fun i hi => by
      rw [List.getD_eq_getElem?_getD, List.getElem?_eq_getElem hi]
      exact he _ (List.getElem_mem hi)
    have hbs : (List.range ds.length).map (fun i => PyData.bool (layB (ds.getD i .none))) = (ds.map layB).map PyData.bool := by
      rw [range_map ds .none (fun d => PyData.bool (layB d)), List.map_map]
      rfl
    refine sj_ret (ev_and (ev_isi (ev_v 0) (ev_t b.tuple boot_tuple) (by decide) b.isi) (fun _ => ev_and (ev_le (ev_lenT (ev_v 0) b.len) (ev_globI rfl gM)) (fun _ => ev_one (ev_all (bs := ds.map layB) (en_lj (lj_map1 1 (fun i => .bool (layB (ds.getD i .none))) (blkOk_by (N := nIsStk) (sc := defScope s_isstk) (own := [("layer", 1)]) (by decide +kernel)) sc_isstk.nd (ij_tup (ev_v 0)) (by omega)
      (fun i hi s H C cl fp => ev_cal c1 hr (Nat.le_refl _) (av_cons (ev_v 1) av_nil) ⟨ds.getD i .none, k - 1, n, rfl, rfl, hget i hi, hn, rfl, rfl⟩)) sc_isstk.nd rfl) hbs rfl b.all)) (fun _ => rfl)) (fun _ => rfl)) (fin0 ?_)
    have e : (isi (.tuple ds) "tuple" && (decide ((ds.length : Int) ≤ 5) && (ds.map layB).all id)) = stkB (.tuple ds) := by
      rw [hs, Bool.true_and, stkB_T, List.all_map]
      congr 1
      exact decide_eq_decide.mpr (by omega)
    rw [e]
    exact h
end
end Fc
end
section
namespace Fc
open PySem PySem.Spec PyProof.Rows L2 Dl
open Evl (Ex)
local macro_rules | `(tactic| walk_at "v") => `(tactic| first | exact ev_v 0 | exact ev_v 1 | exact ev_v 2 | exact ev_v 3 | exact ev_v 4 | exact ev_v 5 | exact ev_v 6 | exact ev_v 7 | exact ev_v 8 | exact ev_v 9 | exact ev_v 10 | exact ev_v 11 | exact ev_v 12 | exact ev_v 13 | exact ev_v 14 | exact ev_v 15 | exact ev_v 16)
local macro_rules | `(tactic| walk_at "side") => `(tactic| first | assumption | rfl | decide | omega | (simp only [List.length_map, List.length_append, List.length_cons, List.length_nil, List.length_singleton] at *; omega))
local macro_rules | `(tactic| walk_at "ck") => `(tactic| (constructor <;> walk_at "side"))
local macro_rules | `(tactic| walk_at "add") => `(tactic| first | exact AddK.nat _ _ | exact AddK.nat1 _ | exact AddK.one _ | exact AddK.int _ _ | (refine AddK.str ?_; walk_at "side") | (refine AddK.lstM ?_; walk_at "side") | (refine AddK.tupM ?_; walk_at "side") | (refine AddK.lst ?_; walk_at "side") | (refine AddK.tup ?_; walk_at "side"))
local macro_rules | `(tactic| walk_at "mul") => `(tactic| first | (refine MulK.nat _ _ ?_; walk_at "side") | (refine MulK.int _ _ ?_; walk_at "side") | (refine MulK.str ?_ ?_ <;> walk_at "side") | (refine MulK.lst ?_ ?_ <;> walk_at "side"))
local macro_rules | `(tactic| walk_at "eq") => `(tactic| first | exact EqK.nat _ _ | exact EqK.int _ _ | exact EqK.str _ _ | exact EqK.bool _ _ | exact EqK.nonS _ | exact EqK.strN _ | exact EqK.intS _ _ | exact EqK.strI _ _ | exact EqK.nonI _ | exact EqK.intN _ | exact EqK.nonN | (refine EqK.gen ?_ ?_ ?_ <;> walk_at "side"))
local macro_rules | `(tactic| walk_at "lt") => `(tactic| first | exact LtK.nat _ _ | exact LtK.int _ _ | exact LtK.str _ _)
local macro_rules | `(tactic| walk_at "le") => `(tactic| first | exact LeK.nat _ _ | exact LeK.int _ _)
local macro_rules | `(tactic| walk_at "len") => `(tactic| first | (refine LenK.str ?_; walk_at "side") | exact LenK.lstM _ | exact LenK.tupM _ | exact LenK.lst _ | exact LenK.tup _)
local macro_rules | `(tactic| walk_at "ix") => `(tactic| first | (refine IxK.lst ?_; first | rfl | assumption) | (refine IxK.tup ?_; first | rfl | assumption) | (refine IxK.lN ?_; first | rfl | assumption) | (refine IxK.tN ?_; first | rfl | assumption) | (refine IxK.sN ?_ ?_ <;> walk_at "side"))
local macro_rules | `(tactic| walk_at "get") => `(tactic| first | exact GetK.mk _ _ _)
local macro_rules | `(tactic| walk_at "sl") => `(tactic| first | exact SlK.tFrom _ _ | exact SlK.tTo _ _ | exact SlK.lFrom _ _ | exact SlK.lTo _ _ | (refine SlK.sFrom _ _ ?_; walk_at "side") | (refine SlK.sTo _ _ ?_; walk_at "side") | (refine SlK.sMid _ _ _ ?_; walk_at "side") | exact SlK.tup _ _ _ | exact SlK.lst _ _ _ | (refine SlK.str ?_; walk_at "side"))
local macro_rules | `(tactic| walk_at "lit") => `(tactic| first | exact ev_strE (y := sL []) (by decide +kernel))
local macro_rules | `(tactic| walk_at "op") => `(tactic| (show OpI _ _ _ _ _ _ _; first | exact op_none | (refine' op_some ?_; (any_goals (walk_at "x")); done)))
local macro_rules | `(tactic| walk_at "blk") => `(tactic| exact blkOk_by (by kernel_rfl))
local macro_rules | `(tactic| walk_at "il") => `(tactic| first
  | (refine' il_tup ?_; (any_goals (walk_at "x")); done)
  | (refine' il_list ?_; (any_goals (walk_at "x")); done)
  | (refine' il_str ?_; (any_goals (walk_at "x")); done))
local macro_rules | `(tactic| walk_at "xs") => `(tactic| (show AV _ _ _ _ _ _ _; first | exact a_nil | (refine' a_cons ?_ ?_; (any_goals (walk_at "x")); (any_goals (walk_at "xs")); done)))
local macro_rules | `(tactic| walk_at "u") => `(tactic| (refine' x_call (by assumption) ?_ ?_ (by assumption); (any_goals (walk_at "xs")); (any_goals (walk_at "ck")); done))
local macro_rules | `(tactic| walk_at "x") => `(tactic| first
  | (show EV _ _ (Expr.Name _ _) _ _ _ _; walk_at "v")
  | (show EV _ _ (Expr.Constant _ _ _) _ _ _ _; first | exact ev_int | exact ev_bl | exact ev_non | walk_at "lit")
  | (show EV _ _ (Expr.BinOp _ Operator.Add _ _) _ _ _ _; refine' x_add ?_ ?_ ?_; (any_goals (walk_at "x")); (any_goals (walk_at "add")); done)
  | (show EV _ _ (Expr.BinOp _ Operator.Sub _ _) _ _ _ _; refine' x_sub ?_ ?_; (any_goals (walk_at "x")); done)
  | (show EV _ _ (Expr.BinOp _ Operator.Mult _ _) _ _ _ _; refine' x_mul ?_ ?_ ?_; (any_goals (walk_at "x")); (any_goals (walk_at "mul")); done)
  | (show EV _ _ (Expr.Call (Expr.Attribute _ "get" _) _ _ _) _ _ _ _; refine' x_get ?_ ?_ ?_ ?_ (by assumption); (any_goals (walk_at "x")); (any_goals (walk_at "get")); done)
  | (show EV _ _ (Expr.Call (Expr.Name "len" _) _ _ _) _ _ _ _; refine' x_len ?_ ?_ (by assumption); (any_goals (walk_at "x")); (any_goals (walk_at "len")); done)
  | (show EV _ _ (Expr.Call (Expr.Name _ _) _ _ _) _ _ _ _; walk_at "u")
  | (show EV _ _ (Expr.Subscript _ (Expr.Slice _ _ _ _) _) _ _ _ _; refine' x_sl ?_ ?_ ?_ ?_; (any_goals (walk_at "x")); (any_goals (walk_at "op")); (any_goals (walk_at "sl")); done)
  | (show EV _ _ (Expr.Subscript _ _ _) _ _ _ _; refine' x_ix ?_ ?_ ?_; (any_goals (walk_at "x")); (any_goals (walk_at "ix")); done)
  | (show EV _ _ (Expr.Tuple _ _ _) _ _ _ _; refine' x_tup ?_; (any_goals (walk_at "xs")); done)
  | (show EV _ _ (Expr.List _ _) _ _ _ _; refine' x_lst ?_; (any_goals (walk_at "xs")); done)
  | (show EV _ _ (Expr.Compare _ [CmpOp.Eq] _ _) _ _ _ _; refine' x_eq ?_ ?_ ?_ (by assumption); (any_goals (walk_at "x")); (any_goals (walk_at "eq")); done)
  | (show EV _ _ (Expr.Compare _ [CmpOp.NotEq] _ _) _ _ _ _; refine' x_ne ?_ ?_ ?_ (by assumption); (any_goals (walk_at "x")); (any_goals (walk_at "eq")); done)
  | (show EV _ _ (Expr.Compare _ [CmpOp.Lt] _ _) _ _ _ _; refine' x_lt ?_ ?_ ?_; (any_goals (walk_at "x")); (any_goals (walk_at "lt")); done)
  | (show EV _ _ (Expr.Compare _ [CmpOp.Gt] _ _) _ _ _ _; refine' x_gt ?_ ?_ ?_; (any_goals (walk_at "x")); (any_goals (walk_at "le")); done)
  | (show EV _ _ (Expr.Compare _ [CmpOp.LtE] _ _) _ _ _ _; refine' x_le ?_ ?_ ?_; (any_goals (walk_at "x")); (any_goals (walk_at "le")); done)
  | (show EV _ _ (Expr.UnaryOp _ _ _) _ _ _ _; refine' ev_not ?_; (any_goals (walk_at "x")); done))
local macro_rules | `(tactic| walk_at "t") => `(tactic| first
  | (show TV _ _ (Expr.Compare _ [CmpOp.Eq] _ _) _ _ _ _; refine' t_eq ?_ ?_ ?_ (by assumption); (any_goals (walk_at "x")); (any_goals (walk_at "eq")); done)
  | (show TV _ _ (Expr.Compare _ [CmpOp.NotEq] _ _) _ _ _ _; refine' t_ne ?_ ?_ ?_ (by assumption); (any_goals (walk_at "x")); (any_goals (walk_at "eq")); done)
  | (show TV _ _ (Expr.Compare _ [CmpOp.Lt] _ _) _ _ _ _; refine' t_lt ?_ ?_ ?_; (any_goals (walk_at "x")); (any_goals (walk_at "lt")); done)
  | (show TV _ _ (Expr.Compare _ [CmpOp.Gt] _ _) _ _ _ _; refine' t_gt ?_ ?_ ?_; (any_goals (walk_at "x")); (any_goals (walk_at "le")); done)
  | (show TV _ _ (Expr.Compare _ [CmpOp.LtE] _ _) _ _ _ _; refine' t_le ?_ ?_ ?_; (any_goals (walk_at "x")); (any_goals (walk_at "le")); done)
  | (show TV _ _ (Expr.Compare _ [CmpOp.Is] _ _) _ _ _ _; refine' t_isN ?_; (any_goals (walk_at "x")); done)
  | (show TV _ _ (Expr.Compare _ [CmpOp.IsNot] _ _) _ _ _ _; refine' t_notN ?_; (any_goals (walk_at "x")); done)
  | (show TV _ _ (Expr.UnaryOp UnaryOp.Not _ _) _ _ _ _; refine' tv_not ?_; (any_goals (walk_at "t")); done)
  | (show TV _ _ _ _ _ _ _; refine' tv_e ?_; (any_goals (walk_at "x")); done))
/-! ### tables -/
def tKv (L : Lay) : List (Str × PyData) := L.map fun q => (sL [q.1], dS q.2)
def lk (L : Lay) (c : Nat) : Option Tx := (L.find? fun q => decide (q.1 = c)).map (·.2)
/-- what a layer writes for a sign -/
def w1 (L : Lay) (c : Nat) : Tx := (lk L c).getD [c]
def wL (L : Lay) (t : Tx) : Tx := t.flatMap (w1 L)
def wS (Ls : List Lay) (t : Tx) : Tx := Ls.foldl (fun t L => wL L t) t
theorem sL1_inj {a b : Nat} : sL [a] = sL [b] ↔ a = b := ⟨fun e => by have := sL_inj e; simpa using this, fun e => by rw [e]⟩
theorem getT_tKv (L : Lay) (c : Nat) : getT (tKv L) (sL [c]) = (lk L c).map dS := by
  induction L with
  | nil => rfl
  | cons q L ih =>
    unfold getT tKv lk at *
    rw [List.map_cons, List.find?_cons, List.find?_cons]
    by_cases h : q.1 = c
    · simp [h]
    · have h2 : ¬ sL [q.1] = sL [c] := fun e => h (sL1_inj.mp e)
      simp only [decide_eq_false h, decide_eq_false h2]
      exact ih
theorem GetK.t1 (L : Lay) (c : Nat) : GetK (dK (tKv L)) (dS [c]) (dS [c]) (dS (w1 L c)) := by
  have h := GetK.mk (tKv L) (sL [c]) (dS [c])
  rw [getT_tKv] at h
  unfold w1
  cases e : lk L c <;> (rw [e] at h; exact h)
theorem putT_new {kvs : List (Str × PyData)} {s : Str} {d : PyData} (h : ∀ q ∈ kvs, q.1 ≠ s) : putT kvs s d = kvs ++ [(s, d)] := by
  unfold putT
  rw [if_neg]
  intro z
  obtain ⟨q, hq, e⟩ := List.any_eq_true.mp z
  exact h q hq (of_decide_eq_true e)
theorem merge_nd : ∀ (kvs acc : List (Str × PyData)), ((acc ++ kvs).map (·.1)).Nodup → mergeT acc kvs = acc ++ kvs
  | [], acc, _ => by simp [mergeT]
  | (s, d) :: kvs, acc, h => by
    show mergeT (putT acc s d) kvs = _
    have h1 : ∀ q ∈ acc, q.1 ≠ s := fun q hq e => by
      rw [List.map_append, List.nodup_append] at h
      exact h.2.2 q.1 (List.mem_map_of_mem hq) s (by simp) e
    rw [putT_new h1, merge_nd kvs (acc ++ [(s, d)]) (by simpa using h)]
    simp
theorem merge_keys {α : Type} {xs : List α} {key : α → Nat} {val : α → PyData} (h : (xs.map key).Nodup) : mergeT [] (xs.map fun q => (sL [key q], val q)) = xs.map fun q => (sL [key q], val q) := by
  rw [merge_nd _ _ (by
    rw [List.nil_append, List.map_map]
    have e : ((fun q : Str × PyData => q.1) ∘ fun q : α => (sL [key q], val q)) = (fun n : Nat => sL [n]) ∘ key := rfl
    rw [e, ← List.map_map]
    rw [List.nodup_iff_pairwise_ne, List.pairwise_map]
    exact (List.nodup_iff_pairwise_ne.mp h).imp fun hab e => hab (sL1_inj.mp e))]
  rfl
/-- dict(pairs) of signs, frozen -/
theorem x_dictP {X : Cx} {R : Addr → Prop} {e : Expr} {ss : List Kd} {O O1 : Store} {d : PyData} {α : Type} {xs : List α} {key : α → Nat} {val : α → PyData} {x : Str} {p pos : Pos} (ha : EV X R e ss O (.dat d) O1) (hd : d = .tuple (xs.map fun q => .tuple [dS [key q], val q]) ∨ d = .list (xs.map fun q => .tuple [dS [key q], val q])) (hk : (xs.map key).Nodup) (B : Bn X.mg) (hc : X.calm = true := by rfl) (hx : x = "dict" := by rfl) (hg : Gl X x := by rfl) (he : starEach [e] X.env = (false, eval e X.env) :: starEach [] X.env := by exact star_ne rfl) :
    EV X R (.Call (.Name x p) [e] [] pos) ss O (.dat (dK (xs.map fun q => (sL [key q], val q)))) O1 := by
  have e1 : (xs.map fun q => PyData.tuple [dS [key q], val q]) = (xs.map fun q => (sL [key q], val q)).map Dl.prD := by rw [List.map_map]; rfl
  have h := en_dictT (pos := pos) (p := p) (kvs := xs.map fun q => (sL [key q], val q)) ha (by rw [← e1]; exact hd) hc B.dict hx hg he
  rw [merge_keys hk] at h
  exact EN.frzD h
section
variable {P : Program} {w : World} {K : PySem.W.Frag} {mg : Str → Option Value} {base : Heap}
/-! ### by_layer -/
inductive FByLayer : List PyData → PyData → Prop
  | mk {L : Lay} {t : Tx} (hn : (L.map (·.1)).Nodup) (ht : t.length ≤ 100000) (hw : (wL L t).length ≤ 100000) : FByLayer [layD L, dS t] (dS (wL L t))
theorem c_by_layer (D : Dfn K mg "by_layer" s_by_layer) (b : Bn mg) : Cal P w K mg base "by_layer" 1 ["layer", "text"] (PF FByLayer) := by
  refine cal_pf D sc_by_layer (fun _ _ _ _ _ _ us hl => match us, hl with | [_, _], _ => rfl) (fun _ _ h => by cases h; rfl) ?_
  rintro f cdv A outer s H E R ds d hr hF
  have nd := sc_by_layer.nd
  cases hF with | @mk L t hn ht hw
  refine sj_set 2 (k := .dat (dK (tKv L))) (x_dictP (key := fun q : Nat × Tx => q.1) (val := fun q => dS q.2) (ev_v 0) (.inl rfl) hn b) ?_ nd
  refine sj_ret (x_joinM (g := w1 L) (ev_str) (x_lc (lj_mapL 3 (xs := t) (by walk_at "il") (by omega) (by walk_at "blk") nd (fun z hz s H C cl fp => ?_)) nd) ?_) rfl
  · exact x_get (ev_v 2) (ev_v 3) (ev_v 3) (GetK.t1 L z) hr
  · exact Nat.le_trans hw (by decide)
end
end Fc
end
section
namespace Fc
open PySem PySem.Spec PyProof.Rows L2 Dl
open Evl (Ex)
local macro_rules | `(tactic| walk_at "v") => `(tactic| first | exact ev_v 0 | exact ev_v 1 | exact ev_v 2 | exact ev_v 3 | exact ev_v 4 | exact ev_v 5 | exact ev_v 6 | exact ev_v 7 | exact ev_v 8 | exact ev_v 9 | exact ev_v 10 | exact ev_v 11 | exact ev_v 12 | exact ev_v 13 | exact ev_v 14 | exact ev_v 15 | exact ev_v 16)
local macro_rules | `(tactic| walk_at "side") => `(tactic| first | assumption | rfl | decide | omega | (simp only [List.length_map, List.length_append, List.length_cons, List.length_nil, List.length_singleton] at *; omega))
local macro_rules | `(tactic| walk_at "ck") => `(tactic| (constructor <;> walk_at "side"))
local macro_rules | `(tactic| walk_at "add") => `(tactic| first | exact AddK.nat _ _ | exact AddK.nat1 _ | exact AddK.one _ | exact AddK.int _ _ | (refine AddK.str ?_; walk_at "side") | (refine AddK.lstM ?_; walk_at "side") | (refine AddK.tupM ?_; walk_at "side") | (refine AddK.lst ?_; walk_at "side") | (refine AddK.tup ?_; walk_at "side"))
local macro_rules | `(tactic| walk_at "mul") => `(tactic| first | (refine MulK.nat _ _ ?_; walk_at "side") | (refine MulK.int _ _ ?_; walk_at "side") | (refine MulK.str ?_ ?_ <;> walk_at "side") | (refine MulK.lst ?_ ?_ <;> walk_at "side"))
local macro_rules | `(tactic| walk_at "eq") => `(tactic| first | exact EqK.nat _ _ | exact EqK.int _ _ | exact EqK.str _ _ | exact EqK.bool _ _ | exact EqK.nonS _ | exact EqK.strN _ | exact EqK.intS _ _ | exact EqK.strI _ _ | exact EqK.nonI _ | exact EqK.intN _ | exact EqK.nonN | (refine EqK.gen ?_ ?_ ?_ <;> walk_at "side"))
local macro_rules | `(tactic| walk_at "lt") => `(tactic| first | exact LtK.nat _ _ | exact LtK.int _ _ | exact LtK.str _ _)
local macro_rules | `(tactic| walk_at "le") => `(tactic| first | exact LeK.nat _ _ | exact LeK.int _ _)
local macro_rules | `(tactic| walk_at "len") => `(tactic| first | (refine LenK.str ?_; walk_at "side") | exact LenK.lstM _ | exact LenK.tupM _ | exact LenK.lst _ | exact LenK.tup _)
local macro_rules | `(tactic| walk_at "ix") => `(tactic| first | (refine IxK.lst ?_; first | rfl | assumption) | (refine IxK.tup ?_; first | rfl | assumption) | (refine IxK.lN ?_; first | rfl | assumption) | (refine IxK.tN ?_; first | rfl | assumption) | (refine IxK.sN ?_ ?_ <;> walk_at "side"))
local macro_rules | `(tactic| walk_at "get") => `(tactic| first | exact GetK.mk _ _ _)
local macro_rules | `(tactic| walk_at "sl") => `(tactic| first | exact SlK.tFrom _ _ | exact SlK.tTo _ _ | exact SlK.lFrom _ _ | exact SlK.lTo _ _ | (refine SlK.sFrom _ _ ?_; walk_at "side") | (refine SlK.sTo _ _ ?_; walk_at "side") | (refine SlK.sMid _ _ _ ?_; walk_at "side") | exact SlK.tup _ _ _ | exact SlK.lst _ _ _ | (refine SlK.str ?_; walk_at "side"))
local macro_rules | `(tactic| walk_at "lit") => `(tactic| first | exact ev_strE (y := sL []) (by decide +kernel))
local macro_rules | `(tactic| walk_at "op") => `(tactic| (show OpI _ _ _ _ _ _ _; first | exact op_none | (refine' op_some ?_; (any_goals (walk_at "x")); done)))
local macro_rules | `(tactic| walk_at "blk") => `(tactic| exact blkOk_by (by kernel_rfl))
local macro_rules | `(tactic| walk_at "il") => `(tactic| first
  | (refine' il_tup ?_; (any_goals (walk_at "x")); done)
  | (refine' il_list ?_; (any_goals (walk_at "x")); done)
  | (refine' il_str ?_; (any_goals (walk_at "x")); done))
local macro_rules | `(tactic| walk_at "xs") => `(tactic| (show AV _ _ _ _ _ _ _; first | exact a_nil | (refine' a_cons ?_ ?_; (any_goals (walk_at "x")); (any_goals (walk_at "xs")); done)))
local macro_rules | `(tactic| walk_at "u") => `(tactic| (refine' x_call (by assumption) ?_ ?_ (by assumption); (any_goals (walk_at "xs")); (any_goals (walk_at "ck")); done))
local macro_rules | `(tactic| walk_at "x") => `(tactic| first
  | (show EV _ _ (Expr.Name _ _) _ _ _ _; walk_at "v")
  | (show EV _ _ (Expr.Constant _ _ _) _ _ _ _; first | exact ev_int | exact ev_bl | exact ev_non | walk_at "lit")
  | (show EV _ _ (Expr.BinOp _ Operator.Add _ _) _ _ _ _; refine' x_add ?_ ?_ ?_; (any_goals (walk_at "x")); (any_goals (walk_at "add")); done)
  | (show EV _ _ (Expr.BinOp _ Operator.Sub _ _) _ _ _ _; refine' x_sub ?_ ?_; (any_goals (walk_at "x")); done)
  | (show EV _ _ (Expr.BinOp _ Operator.Mult _ _) _ _ _ _; refine' x_mul ?_ ?_ ?_; (any_goals (walk_at "x")); (any_goals (walk_at "mul")); done)
  | (show EV _ _ (Expr.Call (Expr.Attribute _ "get" _) _ _ _) _ _ _ _; refine' x_get ?_ ?_ ?_ ?_ (by assumption); (any_goals (walk_at "x")); (any_goals (walk_at "get")); done)
  | (show EV _ _ (Expr.Call (Expr.Name "len" _) _ _ _) _ _ _ _; refine' x_len ?_ ?_ (by assumption); (any_goals (walk_at "x")); (any_goals (walk_at "len")); done)
  | (show EV _ _ (Expr.Call (Expr.Name _ _) _ _ _) _ _ _ _; walk_at "u")
  | (show EV _ _ (Expr.Subscript _ (Expr.Slice _ _ _ _) _) _ _ _ _; refine' x_sl ?_ ?_ ?_ ?_; (any_goals (walk_at "x")); (any_goals (walk_at "op")); (any_goals (walk_at "sl")); done)
  | (show EV _ _ (Expr.Subscript _ _ _) _ _ _ _; refine' x_ix ?_ ?_ ?_; (any_goals (walk_at "x")); (any_goals (walk_at "ix")); done)
  | (show EV _ _ (Expr.Tuple _ _ _) _ _ _ _; refine' x_tup ?_; (any_goals (walk_at "xs")); done)
  | (show EV _ _ (Expr.List _ _) _ _ _ _; refine' x_lst ?_; (any_goals (walk_at "xs")); done)
  | (show EV _ _ (Expr.Compare _ [CmpOp.Eq] _ _) _ _ _ _; refine' x_eq ?_ ?_ ?_ (by assumption); (any_goals (walk_at "x")); (any_goals (walk_at "eq")); done)
  | (show EV _ _ (Expr.Compare _ [CmpOp.NotEq] _ _) _ _ _ _; refine' x_ne ?_ ?_ ?_ (by assumption); (any_goals (walk_at "x")); (any_goals (walk_at "eq")); done)
  | (show EV _ _ (Expr.Compare _ [CmpOp.Lt] _ _) _ _ _ _; refine' x_lt ?_ ?_ ?_; (any_goals (walk_at "x")); (any_goals (walk_at "lt")); done)
  | (show EV _ _ (Expr.Compare _ [CmpOp.Gt] _ _) _ _ _ _; refine' x_gt ?_ ?_ ?_; (any_goals (walk_at "x")); (any_goals (walk_at "le")); done)
  | (show EV _ _ (Expr.Compare _ [CmpOp.LtE] _ _) _ _ _ _; refine' x_le ?_ ?_ ?_; (any_goals (walk_at "x")); (any_goals (walk_at "le")); done)
  | (show EV _ _ (Expr.UnaryOp _ _ _) _ _ _ _; refine' ev_not ?_; (any_goals (walk_at "x")); done))
local macro_rules | `(tactic| walk_at "t") => `(tactic| first
  | (show TV _ _ (Expr.Compare _ [CmpOp.Eq] _ _) _ _ _ _; refine' t_eq ?_ ?_ ?_ (by assumption); (any_goals (walk_at "x")); (any_goals (walk_at "eq")); done)
  | (show TV _ _ (Expr.Compare _ [CmpOp.NotEq] _ _) _ _ _ _; refine' t_ne ?_ ?_ ?_ (by assumption); (any_goals (walk_at "x")); (any_goals (walk_at "eq")); done)
  | (show TV _ _ (Expr.Compare _ [CmpOp.Lt] _ _) _ _ _ _; refine' t_lt ?_ ?_ ?_; (any_goals (walk_at "x")); (any_goals (walk_at "lt")); done)
  | (show TV _ _ (Expr.Compare _ [CmpOp.Gt] _ _) _ _ _ _; refine' t_gt ?_ ?_ ?_; (any_goals (walk_at "x")); (any_goals (walk_at "le")); done)
  | (show TV _ _ (Expr.Compare _ [CmpOp.LtE] _ _) _ _ _ _; refine' t_le ?_ ?_ ?_; (any_goals (walk_at "x")); (any_goals (walk_at "le")); done)
  | (show TV _ _ (Expr.Compare _ [CmpOp.Is] _ _) _ _ _ _; refine' t_isN ?_; (any_goals (walk_at "x")); done)
  | (show TV _ _ (Expr.Compare _ [CmpOp.IsNot] _ _) _ _ _ _; refine' t_notN ?_; (any_goals (walk_at "x")); done)
  | (show TV _ _ (Expr.UnaryOp UnaryOp.Not _ _) _ _ _ _; refine' tv_not ?_; (any_goals (walk_at "t")); done)
  | (show TV _ _ _ _ _ _ _; refine' tv_e ?_; (any_goals (walk_at "x")); done))
theorem wS_snoc (Ls : List Lay) (L : Lay) (t : Tx) : wS (Ls ++ [L]) t = wL L (wS Ls t) := by
  unfold wS
  rw [List.foldl_append]
  rfl
/-- the signs of all pairs -/
def sgs (Ls : List Lay) : List Nat := Ls.flatMap fun L => L.map (·.1)
/-- what results gives -/
def res (Ls : List Lay) : Lay := (dsg (sgs Ls)).map fun c => (c, wS Ls [c])
/-- a table of counts -/
abbrev Cnt := List (Nat × Nat)
def cKv (C : Cnt) : List (Str × PyData) := C.map fun q => (sL [q.1], .int (q.2 : Nat))
def cnt1 (t : Tx) : Cnt := (dsg t).map fun c => (c, t.count c)
section
variable {P : Program} {w : World} {K : PySem.W.Frag} {mg : Str → Option Value} {base : Heap}
/-! ### by_stack -/
inductive FByStack : List PyData → PyData → Prop
  | mk {Ls : List Lay} {t : Tx} (hn : ∀ L ∈ Ls, (L.map (·.1)).Nodup) (hw : ∀ pre post, Ls = pre ++ post → (wS pre t).length ≤ 100000) : FByStack [stkD Ls, dS t] (dS (wS Ls t))
theorem c_by_stack (D : Dfn K mg "by_stack" s_by_stack) (b : Bn mg) (c1 : Cal P w K mg base "by_layer" 1 ["layer", "text"] (PF FByLayer)) : Cal P w K mg base "by_stack" 2 ["stack", "text"] (PF FByStack) := by
  refine cal_pf D sc_by_stack (fun _ _ _ _ _ _ us hl => match us, hl with | [_, _], _ => rfl) (fun _ _ h => by cases h; rfl) ?_
  rintro f cdv A outer s H E R ds d hr hF
  have nd := sc_by_stack.nd
  cases hF with | @mk Ls t hn hw
  refine sj_forL 2 (xs := Ls) (fun pre ss O => ∃ k, ss = [.dat (stkD Ls), .dat (dS (wS pre t)), k] ∧ O = []) nd (by walk_at "il") ⟨_, rfl, rfl⟩ ?_ ?_
  · rintro pre L post e ss1 O1 ⟨k, rfl, rfl⟩
    have h1 := hn L (by rw [e]; simp)
    have h2 := hw pre (L :: post) e
    have h3 := hw (pre ++ [L]) post (by rw [e]; simp)
    rw [wS_snoc] at h3
    refine sj_set 1 (x_call c1 (a_cons (ev_v 2) (a_cons (ev_v 1) a_nil)) (by constructor <;> assumption) hr) ?_ nd
    exact sj_nil ⟨_, by rw [wS_snoc]; rfl, rfl⟩
  · rintro ss1 O1 ⟨k, rfl, rfl⟩
    exact sj_ret (by walk_at "x") rfl
/-! ### results -/
inductive FResults : List PyData → PyData → Prop
  | mk {Ls : List Lay} (hn : ∀ L ∈ Ls, (L.map (·.1)).Nodup) (hw : ∀ c pre post, Ls = pre ++ post → (wS pre [c]).length ≤ 100000) (hl : (sgs Ls).length ≤ 1000) : FResults [stkD Ls] (dK (tKv (res Ls)))
theorem dsg_res (Ls : List Lay) : (res Ls).map (·.1) = dsg (sgs Ls) := by
  unfold res
  rw [List.map_map]
  exact List.map_id _
theorem c_results (D : Dfn K mg "results" s_results) (b : Bn mg) (c1 : Cal P w K mg base "by_stack" 2 ["stack", "text"] (PF FByStack)) : Cal P w K mg base "results" 3 ["stack"] (PF FResults) := by
  refine cal_pf D sc_results (fun _ _ _ _ _ _ us hl => match us, hl with | [_], _ => rfl) (fun _ _ h => by cases h; rfl) ?_
  rintro f cdv A outer s H E R ds d hr hF
  have nd := sc_results.nd
  cases hF with | @mk Ls hn hw hl
  have hd := dsg_len (sgs Ls)
  have e : tKv (res Ls) = (dsg (sgs Ls)).map fun c => (sL [c], dS (wS Ls [c])) := by unfold tKv res; rw [List.map_map]; rfl
  rw [e]
  refine sj_ret (x_dictP (key := id) (val := fun c => dS (wS Ls [c])) (x_lc (lj_mapL 3 (xs := dsg (sgs Ls)) (inj := fun c => .dat (dS [c])) (f := fun c => .tuple [dS [c], dS (wS Ls [c])]) (il_list (x_sortSc2 (g := pairD) (f := fun (L : Lay) (q : Nat × Tx) => q.1) (y0 := (0, [])) 1 2 (by decide) (xs := Ls) (by walk_at "il") (by walk_at "blk") nd (fun L hL s H C cl fp => ?_) (fun L hL q hq s H C cl fp => ?_) hl b)) (by omega) (by walk_at "blk") nd (fun c hc s H C cl fp => ?_)) nd) (.inr rfl) (by rw [List.map_id]; exact dsg_nodup _) b) rfl
  · exact ev_v 1
  · exact x_ix (ev_v 2) ev_int (.tup rfl)
  · have h1 := hw c
    walk_at "x"
/-! ### counted -/
inductive FCounted : List PyData → PyData → Prop
  | mk {t : Tx} {U : List Nat} (hU : ∀ c ∈ t, c ∈ U) (hl : U.length ≤ 1000) : FCounted [dS t] (dK (cKv (cnt1 t)))
theorem dsg_few {t U : List Nat} (hU : ∀ c ∈ t, c ∈ U) : (dsg t).length ≤ U.length := nd_le (dsg_nodup t) fun c hc => hU c (dsg_mem.mp hc)
theorem c_counted (D : Dfn K mg "counted" s_counted) (b : Bn mg) : Cal P w K mg base "counted" 1 ["text"] (PF FCounted) := by
  refine cal_pf D sc_counted (fun _ _ _ _ _ _ us hl => match us, hl with | [_], _ => rfl) (fun _ _ h => by cases h; rfl) ?_
  rintro f cdv A outer s H E R ds d hr hF
  have nd := sc_counted.nd
  cases hF with | @mk t U hU hl
  have hd := dsg_few hU
  have e : cKv (cnt1 t) = (dsg t).map fun c => (sL [c], .int (t.count c : Nat)) := by unfold cKv cnt1; rw [List.map_map]; rfl
  rw [e]
  refine sj_ret (x_dictP (key := id) (val := fun c => .int (t.count c : Nat)) (x_lc (lj_mapL 1 (xs := dsg t) (inj := fun c => .dat (dS [c])) (f := fun c => .tuple [dS [c], .int (t.count c : Nat)]) (il_list (x_sortSetS (ev_v 0) U hU (by omega) b)) (by omega) (by walk_at "blk") nd (fun c hc s H C cl fp => ?_)) nd) (.inr rfl) (by rw [List.map_id]; exact dsg_nodup _) b) rfl
  exact x_tup (a_cons (ev_v 1) (a_cons (ev_count (ev_v 0) (ev_v 1)) a_nil))
end
end Fc
end
section
namespace Fc
open PySem PySem.Spec PyProof.Rows L2 Dl
open Evl (Ex)
local macro_rules | `(tactic| walk_at "v") => `(tactic| first | exact ev_v 0 | exact ev_v 1 | exact ev_v 2 | exact ev_v 3 | exact ev_v 4 | exact ev_v 5 | exact ev_v 6 | exact ev_v 7 | exact ev_v 8 | exact ev_v 9 | exact ev_v 10 | exact ev_v 11 | exact ev_v 12 | exact ev_v 13 | exact ev_v 14 | exact ev_v 15 | exact ev_v 16)
local macro_rules | `(tactic| walk_at "side") => `(tactic| first | assumption | rfl | decide | omega | (simp only [List.length_map, List.length_append, List.length_cons, List.length_nil, List.length_singleton] at *; omega))
local macro_rules | `(tactic| walk_at "ck") => `(tactic| (constructor <;> walk_at "side"))
local macro_rules | `(tactic| walk_at "add") => `(tactic| first | exact AddK.nat _ _ | exact AddK.nat1 _ | exact AddK.one _ | exact AddK.int _ _ | (refine AddK.str ?_; walk_at "side") | (refine AddK.lstM ?_; walk_at "side") | (refine AddK.tupM ?_; walk_at "side") | (refine AddK.lst ?_; walk_at "side") | (refine AddK.tup ?_; walk_at "side"))
local macro_rules | `(tactic| walk_at "mul") => `(tactic| first | (refine MulK.nat _ _ ?_; walk_at "side") | (refine MulK.int _ _ ?_; walk_at "side") | (refine MulK.str ?_ ?_ <;> walk_at "side") | (refine MulK.lst ?_ ?_ <;> walk_at "side"))
local macro_rules | `(tactic| walk_at "eq") => `(tactic| first | exact EqK.nat _ _ | exact EqK.int _ _ | exact EqK.str _ _ | exact EqK.bool _ _ | exact EqK.nonS _ | exact EqK.strN _ | exact EqK.intS _ _ | exact EqK.strI _ _ | exact EqK.nonI _ | exact EqK.intN _ | exact EqK.nonN | (refine EqK.gen ?_ ?_ ?_ <;> walk_at "side"))
local macro_rules | `(tactic| walk_at "lt") => `(tactic| first | exact LtK.nat _ _ | exact LtK.int _ _ | exact LtK.str _ _)
local macro_rules | `(tactic| walk_at "le") => `(tactic| first | exact LeK.nat _ _ | exact LeK.int _ _)
local macro_rules | `(tactic| walk_at "len") => `(tactic| first | (refine LenK.str ?_; walk_at "side") | exact LenK.lstM _ | exact LenK.tupM _ | exact LenK.lst _ | exact LenK.tup _)
local macro_rules | `(tactic| walk_at "ix") => `(tactic| first | (refine IxK.lst ?_; first | rfl | assumption) | (refine IxK.tup ?_; first | rfl | assumption) | (refine IxK.lN ?_; first | rfl | assumption) | (refine IxK.tN ?_; first | rfl | assumption) | (refine IxK.sN ?_ ?_ <;> walk_at "side"))
local macro_rules | `(tactic| walk_at "get") => `(tactic| first | exact GetK.mk _ _ _)
local macro_rules | `(tactic| walk_at "sl") => `(tactic| first | exact SlK.tFrom _ _ | exact SlK.tTo _ _ | exact SlK.lFrom _ _ | exact SlK.lTo _ _ | (refine SlK.sFrom _ _ ?_; walk_at "side") | (refine SlK.sTo _ _ ?_; walk_at "side") | (refine SlK.sMid _ _ _ ?_; walk_at "side") | exact SlK.tup _ _ _ | exact SlK.lst _ _ _ | (refine SlK.str ?_; walk_at "side"))
local macro_rules | `(tactic| walk_at "lit") => `(tactic| first | exact ev_strE (y := sL []) (by decide +kernel))
local macro_rules | `(tactic| walk_at "op") => `(tactic| (show OpI _ _ _ _ _ _ _; first | exact op_none | (refine' op_some ?_; (any_goals (walk_at "x")); done)))
local macro_rules | `(tactic| walk_at "blk") => `(tactic| exact blkOk_by (by kernel_rfl))
local macro_rules | `(tactic| walk_at "il") => `(tactic| first
  | (refine' il_tup ?_; (any_goals (walk_at "x")); done)
  | (refine' il_list ?_; (any_goals (walk_at "x")); done)
  | (refine' il_str ?_; (any_goals (walk_at "x")); done))
local macro_rules | `(tactic| walk_at "xs") => `(tactic| (show AV _ _ _ _ _ _ _; first | exact a_nil | (refine' a_cons ?_ ?_; (any_goals (walk_at "x")); (any_goals (walk_at "xs")); done)))
local macro_rules | `(tactic| walk_at "u") => `(tactic| (refine' x_call (by assumption) ?_ ?_ (by assumption); (any_goals (walk_at "xs")); (any_goals (walk_at "ck")); done))
local macro_rules | `(tactic| walk_at "x") => `(tactic| first
  | (show EV _ _ (Expr.Name _ _) _ _ _ _; walk_at "v")
  | (show EV _ _ (Expr.Constant _ _ _) _ _ _ _; first | exact ev_int | exact ev_bl | exact ev_non | walk_at "lit")
  | (show EV _ _ (Expr.BinOp _ Operator.Add _ _) _ _ _ _; refine' x_add ?_ ?_ ?_; (any_goals (walk_at "x")); (any_goals (walk_at "add")); done)
  | (show EV _ _ (Expr.BinOp _ Operator.Sub _ _) _ _ _ _; refine' x_sub ?_ ?_; (any_goals (walk_at "x")); done)
  | (show EV _ _ (Expr.BinOp _ Operator.Mult _ _) _ _ _ _; refine' x_mul ?_ ?_ ?_; (any_goals (walk_at "x")); (any_goals (walk_at "mul")); done)
  | (show EV _ _ (Expr.Call (Expr.Attribute _ "get" _) _ _ _) _ _ _ _; refine' x_get ?_ ?_ ?_ ?_ (by assumption); (any_goals (walk_at "x")); (any_goals (walk_at "get")); done)
  | (show EV _ _ (Expr.Call (Expr.Name "len" _) _ _ _) _ _ _ _; refine' x_len ?_ ?_ (by assumption); (any_goals (walk_at "x")); (any_goals (walk_at "len")); done)
  | (show EV _ _ (Expr.Call (Expr.Name _ _) _ _ _) _ _ _ _; walk_at "u")
  | (show EV _ _ (Expr.Subscript _ (Expr.Slice _ _ _ _) _) _ _ _ _; refine' x_sl ?_ ?_ ?_ ?_; (any_goals (walk_at "x")); (any_goals (walk_at "op")); (any_goals (walk_at "sl")); done)
  | (show EV _ _ (Expr.Subscript _ _ _) _ _ _ _; refine' x_ix ?_ ?_ ?_; (any_goals (walk_at "x")); (any_goals (walk_at "ix")); done)
  | (show EV _ _ (Expr.Tuple _ _ _) _ _ _ _; refine' x_tup ?_; (any_goals (walk_at "xs")); done)
  | (show EV _ _ (Expr.List _ _) _ _ _ _; refine' x_lst ?_; (any_goals (walk_at "xs")); done)
  | (show EV _ _ (Expr.Compare _ [CmpOp.Eq] _ _) _ _ _ _; refine' x_eq ?_ ?_ ?_ (by assumption); (any_goals (walk_at "x")); (any_goals (walk_at "eq")); done)
  | (show EV _ _ (Expr.Compare _ [CmpOp.NotEq] _ _) _ _ _ _; refine' x_ne ?_ ?_ ?_ (by assumption); (any_goals (walk_at "x")); (any_goals (walk_at "eq")); done)
  | (show EV _ _ (Expr.Compare _ [CmpOp.Lt] _ _) _ _ _ _; refine' x_lt ?_ ?_ ?_; (any_goals (walk_at "x")); (any_goals (walk_at "lt")); done)
  | (show EV _ _ (Expr.Compare _ [CmpOp.Gt] _ _) _ _ _ _; refine' x_gt ?_ ?_ ?_; (any_goals (walk_at "x")); (any_goals (walk_at "le")); done)
  | (show EV _ _ (Expr.Compare _ [CmpOp.LtE] _ _) _ _ _ _; refine' x_le ?_ ?_ ?_; (any_goals (walk_at "x")); (any_goals (walk_at "le")); done)
  | (show EV _ _ (Expr.UnaryOp _ _ _) _ _ _ _; refine' ev_not ?_; (any_goals (walk_at "x")); done))
local macro_rules | `(tactic| walk_at "t") => `(tactic| first
  | (show TV _ _ (Expr.Compare _ [CmpOp.Eq] _ _) _ _ _ _; refine' t_eq ?_ ?_ ?_ (by assumption); (any_goals (walk_at "x")); (any_goals (walk_at "eq")); done)
  | (show TV _ _ (Expr.Compare _ [CmpOp.NotEq] _ _) _ _ _ _; refine' t_ne ?_ ?_ ?_ (by assumption); (any_goals (walk_at "x")); (any_goals (walk_at "eq")); done)
  | (show TV _ _ (Expr.Compare _ [CmpOp.Lt] _ _) _ _ _ _; refine' t_lt ?_ ?_ ?_; (any_goals (walk_at "x")); (any_goals (walk_at "lt")); done)
  | (show TV _ _ (Expr.Compare _ [CmpOp.Gt] _ _) _ _ _ _; refine' t_gt ?_ ?_ ?_; (any_goals (walk_at "x")); (any_goals (walk_at "le")); done)
  | (show TV _ _ (Expr.Compare _ [CmpOp.LtE] _ _) _ _ _ _; refine' t_le ?_ ?_ ?_; (any_goals (walk_at "x")); (any_goals (walk_at "le")); done)
  | (show TV _ _ (Expr.Compare _ [CmpOp.Is] _ _) _ _ _ _; refine' t_isN ?_; (any_goals (walk_at "x")); done)
  | (show TV _ _ (Expr.Compare _ [CmpOp.IsNot] _ _) _ _ _ _; refine' t_notN ?_; (any_goals (walk_at "x")); done)
  | (show TV _ _ (Expr.UnaryOp UnaryOp.Not _ _) _ _ _ _; refine' tv_not ?_; (any_goals (walk_at "t")); done)
  | (show TV _ _ _ _ _ _ _; refine' tv_e ?_; (any_goals (walk_at "x")); done))
def putC (F : Cnt) (o v : Nat) : Cnt := if (F.any fun q => decide (q.1 = o)) = true then F.map (fun q => if q.1 = o then (q.1, v) else q) else F ++ [(o, v)]
def getC (F : Cnt) (o : Nat) : Nat := ((F.find? fun q => decide (q.1 = o)).map (·.2)).getD 0
theorem get_cKv (F : Cnt) (o : Nat) : (getT (cKv F) (sL [o])).getD (.int 0) = .int (getC F o : Nat) := by
  induction F with
  | nil => rfl
  | cons q F ih =>
    unfold getT cKv getC at *
    rw [List.map_cons, List.find?_cons, List.find?_cons]
    by_cases h : q.1 = o
    · simp [h]
    · have h2 : ¬ sL [q.1] = sL [o] := fun e => h (sL1_inj.mp e)
      simp only [decide_eq_false h, decide_eq_false h2]
      exact ih
theorem put_cKv (F : Cnt) (o v : Nat) : putT (cKv F) (sL [o]) (.int (v : Nat)) = cKv (putC F o v) := by
  have ha : ((cKv F).any fun kv => decide (kv.1 = sL [o])) = F.any fun q => decide (q.1 = o) := by
    unfold cKv
    rw [List.any_map]
    congr 1
    funext q
    by_cases h : q.1 = o
    · simp [h]
    · have h2 : ¬ sL [q.1] = sL [o] := fun e => h (sL1_inj.mp e)
      simp [h, h2]
  unfold putT putC
  rw [ha]
  by_cases c : (F.any fun q => decide (q.1 = o)) = true
  · rw [if_pos c, if_pos c]
    unfold cKv
    rw [List.map_map, List.map_map]
    apply List.map_congr_left
    intro q _
    by_cases h : q.1 = o
    · simp [h]
    · have h2 : ¬ sL [q.1] = sL [o] := fun e => h (sL1_inj.mp e)
      simp [h, h2]
  · rw [if_neg c, if_neg c]
    unfold cKv
    rw [List.map_append]
    rfl
/-- one pair of the inner loop, the inner loop, the whole -/
def addC (n : Nat) (F : Cnt) (p : Nat × Nat) : Cnt := putC F p.1 (getC F p.1 + n * p.2)
def innC (T : Lay) (F : Cnt) (q : Nat × Nat) : Cnt := (cnt1 (w1 T q.1)).foldl (addC q.2) F
def runC (T : Lay) (C : Cnt) : Cnt := C.foldl (innC T) []
theorem putC_len (F : Cnt) (o v : Nat) : (putC F o v).length ≤ F.length + 1 := by
  unfold putC
  split
  · rw [List.length_map]; omega
  · rw [List.length_append, List.length_cons, List.length_nil]; omega
theorem cnt1_len {t U : Tx} (hU : ∀ c ∈ t, c ∈ U) : (cnt1 t).length ≤ U.length := by
  unfold cnt1
  rw [List.length_map]
  exact dsg_few hU
section
variable {P : Program} {w : World} {K : PySem.W.Frag} {mg : Str → Option Value} {base : Heap}
/-! ### run_counts -/
inductive FRunCounts : List PyData → PyData → Prop
  | mk {T : Lay} {C : Cnt} {U : List Nat} (hU : ∀ q ∈ C, ∀ x ∈ w1 T q.1, x ∈ U) (hUl : U.length ≤ 1000) (hT : ∀ q ∈ C, (w1 T q.1).length ≤ 100000) (hC : C.length ≤ 1000) : FRunCounts [dK (tKv T), dK (cKv C)] (dK (cKv (runC T C)))
theorem c_run_counts (D : Dfn K mg "run_counts" s_run_counts) (b : Bn mg) (c1 : Cal P w K mg base "counted" 1 ["text"] (PF FCounted)) : Cal P w K mg base "run_counts" 2 ["known", "counts"] (PF FRunCounts) := by
  refine cal_pf D sc_run_counts (fun _ _ _ _ _ _ us hl => match us, hl with | [_, _], _ => rfl) (fun _ _ h => by cases h; rfl) ?_
  rintro f cdv A outer s H E R ds d hr hF
  have nd := sc_run_counts.nd
  cases hF with | @mk T C U hU hUl hT hC
  refine sj_setN 2 en_dict (fun p => ?_) nd
  refine sj_forL2 3 4 (xs := C) (d1 := fun z => dS [z.1]) (d2 := fun z => .int (z.2 : Nat)) (fun pre ss O => ∃ k3 k4 k5 k6, ss = [.dat (dK (tKv T)), .dat (dK (cKv C)), .val (.ref p), k3, k4, k5, k6] ∧ O = [(p, .od (cKv (pre.foldl (innC T) [])))] ∧ (pre.foldl (innC T) []).length ≤ 1000 * pre.length)
    nd (il_itemsM (ev_v 1)) (fun z => .inl rfl) ⟨_, _, _, _, rfl, rfl, by simp⟩ ?_ ?_
  · rintro pre q post e ss1 O1 ⟨k3, k4, k5, k6, rfl, rfl, hl⟩
    have hpre : pre.length ≤ 1000 := by rw [e] at hC; simp at hC; omega
    generalize hF : pre.foldl (innC T) [] = F at hl ⊢
    have hq : q ∈ C := by rw [e]; simp
    have hw := hT q hq
    have hcl := cnt1_len (hU q hq)
    have hg := GetK.t1 T q.1
    have hCt : FCounted [dS (w1 T q.1)] (dK (cKv (cnt1 (w1 T q.1)))) := .mk (hU q hq) hUl
    refine sj_forL2 5 6 (xs := cnt1 (w1 T q.1)) (d1 := fun z => dS [z.1]) (d2 := fun z => .int (z.2 : Nat)) (fun pre2 ss O => ∃ k5 k6, ss = [.dat (dK (tKv T)), .dat (dK (cKv C)), .val (.ref p), .dat (dS [q.1]), .dat (.int (q.2 : Nat)), k5, k6] ∧ O = [(p, .od (cKv (pre2.foldl (addC q.2) F)))] ∧ (pre2.foldl (addC q.2) F).length ≤ F.length + pre2.length)
      nd (il_itemsM (x_call c1 (a_cons (x_get (ev_v 0) (ev_v 3) (ev_v 3) hg hr) a_nil) hCt hr)) (fun z => .inl rfl) ⟨_, _, rfl, rfl, by simp⟩ ?_ ?_
    · rintro pre2 r post2 e2 ss1 O1 ⟨k5, k6, rfl, rfl, hl2⟩
      have hpre2 : pre2.length < 1000 := by
        have : (cnt1 (w1 T q.1)).length = pre2.length + (post2.length + 1) := by rw [e2]; simp
        omega
      generalize hG : pre2.foldl (addC q.2) F = G at hl2 ⊢
      have h3 : ((q.2 : Nat) : Int) * ((r.2 : Nat) : Int) = ((q.2 * r.2 : Nat) : Int) := by simp
      have hr2 : r.2 < 2 ^ 64 := by
        have hm : r ∈ cnt1 (w1 T q.1) := by rw [e2]; simp
        unfold cnt1 at hm
        obtain ⟨c, _, rfl⟩ := List.mem_map.mp hm
        have : List.count c (w1 T q.1) ≤ (w1 T q.1).length := List.count_le_length
        show List.count c (w1 T q.1) < _
        omega
      have hm2 : CMul ((q.2 : Nat) : Int) ((r.2 : Nat) : Int) ∨ CMulW ((q.2 : Nat) : Int) ((r.2 : Nat) : Int) := .inl (.inr ⟨by omega, by omega⟩)
      refine sj_put 0 (s := sL [r.1]) (kvs := cKv G) (d := .int ((getC G r.1 + q.2 * r.2 : Nat))) (x_add (x_getO 0 (ev_v 2) (ev_v 5) ev_int rfl (get_cKv G r.1) hr) (x_mul (ev_v 4) (ev_v 6) (.nat _ _ hm2)) (.nat _ _)) (ev_v 2) (ev_v 5) rfl ?_ (put_cKv _ _ _) ?_ hr
      · unfold cKv
        rw [List.length_map]
        have : F.length ≤ 1000000 := by omega
        omega
      · have h4 := putC_len G r.1 (getC G r.1 + q.2 * r.2)
        refine sj_nil ⟨_, _, rfl, ?_, ?_⟩
        · rw [List.foldl_append, hG]; rfl
        · rw [List.foldl_append, hG, List.length_append]
          show (putC G r.1 (getC G r.1 + q.2 * r.2)).length ≤ _
          simp only [List.length_cons, List.length_nil]
          omega
    · rintro ss1 O1 ⟨k5, k6, rfl, rfl, hl2⟩
      refine sj_nil ⟨_, _, _, _, rfl, ?_, ?_⟩
      · rw [List.foldl_append, hF]; rfl
      · rw [List.foldl_append, hF, List.length_append]
        show ((cnt1 (w1 T q.1)).foldl (addC q.2) F).length ≤ _
        simp only [List.length_cons, List.length_nil]
        omega
  · rintro ss1 O1 ⟨k3, k4, k5, k6, rfl, rfl, hl⟩
    exact sj_ret (EV.frzD (j := 0) (ev_v 2) rfl) rfl
end
end Fc
end
section
namespace Fc
open PySem PySem.Spec PyProof.Rows L2 Dl
open Evl (Ex)
local macro_rules | `(tactic| walk_at "v") => `(tactic| first | exact ev_v 0 | exact ev_v 1 | exact ev_v 2 | exact ev_v 3 | exact ev_v 4 | exact ev_v 5 | exact ev_v 6 | exact ev_v 7 | exact ev_v 8 | exact ev_v 9 | exact ev_v 10 | exact ev_v 11 | exact ev_v 12 | exact ev_v 13 | exact ev_v 14 | exact ev_v 15 | exact ev_v 16)
local macro_rules | `(tactic| walk_at "side") => `(tactic| first | assumption | rfl | decide | omega | (simp only [List.length_map, List.length_append, List.length_cons, List.length_nil, List.length_singleton] at *; omega))
local macro_rules | `(tactic| walk_at "ck") => `(tactic| (constructor <;> walk_at "side"))
local macro_rules | `(tactic| walk_at "add") => `(tactic| first | exact AddK.nat _ _ | exact AddK.nat1 _ | exact AddK.one _ | exact AddK.int _ _ | (refine AddK.str ?_; walk_at "side") | (refine AddK.lstM ?_; walk_at "side") | (refine AddK.tupM ?_; walk_at "side") | (refine AddK.lst ?_; walk_at "side") | (refine AddK.tup ?_; walk_at "side"))
local macro_rules | `(tactic| walk_at "mul") => `(tactic| first | (refine MulK.nat _ _ ?_; walk_at "side") | (refine MulK.int _ _ ?_; walk_at "side") | (refine MulK.str ?_ ?_ <;> walk_at "side") | (refine MulK.lst ?_ ?_ <;> walk_at "side"))
local macro_rules | `(tactic| walk_at "eq") => `(tactic| first | exact EqK.nat _ _ | exact EqK.int _ _ | exact EqK.str _ _ | exact EqK.bool _ _ | exact EqK.nonS _ | exact EqK.strN _ | exact EqK.intS _ _ | exact EqK.strI _ _ | exact EqK.nonI _ | exact EqK.intN _ | exact EqK.nonN | (refine EqK.gen ?_ ?_ ?_ <;> walk_at "side"))
local macro_rules | `(tactic| walk_at "lt") => `(tactic| first | exact LtK.nat _ _ | exact LtK.int _ _ | exact LtK.str _ _)
local macro_rules | `(tactic| walk_at "le") => `(tactic| first | exact LeK.nat _ _ | exact LeK.int _ _)
local macro_rules | `(tactic| walk_at "len") => `(tactic| first | (refine LenK.str ?_; walk_at "side") | exact LenK.lstM _ | exact LenK.tupM _ | exact LenK.lst _ | exact LenK.tup _)
local macro_rules | `(tactic| walk_at "ix") => `(tactic| first | (refine IxK.lst ?_; first | rfl | assumption) | (refine IxK.tup ?_; first | rfl | assumption) | (refine IxK.lN ?_; first | rfl | assumption) | (refine IxK.tN ?_; first | rfl | assumption) | (refine IxK.sN ?_ ?_ <;> walk_at "side"))
local macro_rules | `(tactic| walk_at "get") => `(tactic| first | exact GetK.mk _ _ _)
local macro_rules | `(tactic| walk_at "sl") => `(tactic| first | exact SlK.tFrom _ _ | exact SlK.tTo _ _ | exact SlK.lFrom _ _ | exact SlK.lTo _ _ | (refine SlK.sFrom _ _ ?_; walk_at "side") | (refine SlK.sTo _ _ ?_; walk_at "side") | (refine SlK.sMid _ _ _ ?_; walk_at "side") | exact SlK.tup _ _ _ | exact SlK.lst _ _ _ | (refine SlK.str ?_; walk_at "side"))
local macro_rules | `(tactic| walk_at "lit") => `(tactic| first | exact ev_strE (y := sL []) (by decide +kernel))
local macro_rules | `(tactic| walk_at "op") => `(tactic| (show OpI _ _ _ _ _ _ _; first | exact op_none | (refine' op_some ?_; (any_goals (walk_at "x")); done)))
local macro_rules | `(tactic| walk_at "blk") => `(tactic| exact blkOk_by (by kernel_rfl))
local macro_rules | `(tactic| walk_at "il") => `(tactic| first
  | (refine' il_tup ?_; (any_goals (walk_at "x")); done)
  | (refine' il_list ?_; (any_goals (walk_at "x")); done)
  | (refine' il_str ?_; (any_goals (walk_at "x")); done))
local macro_rules | `(tactic| walk_at "xs") => `(tactic| (show AV _ _ _ _ _ _ _; first | exact a_nil | (refine' a_cons ?_ ?_; (any_goals (walk_at "x")); (any_goals (walk_at "xs")); done)))
local macro_rules | `(tactic| walk_at "u") => `(tactic| (refine' x_call (by assumption) ?_ ?_ (by assumption); (any_goals (walk_at "xs")); (any_goals (walk_at "ck")); done))
local macro_rules | `(tactic| walk_at "x") => `(tactic| first
  | (show EV _ _ (Expr.Name _ _) _ _ _ _; walk_at "v")
  | (show EV _ _ (Expr.Constant _ _ _) _ _ _ _; first | exact ev_int | exact ev_bl | exact ev_non | walk_at "lit")
  | (show EV _ _ (Expr.BinOp _ Operator.Add _ _) _ _ _ _; refine' x_add ?_ ?_ ?_; (any_goals (walk_at "x")); (any_goals (walk_at "add")); done)
  | (show EV _ _ (Expr.BinOp _ Operator.Sub _ _) _ _ _ _; refine' x_sub ?_ ?_; (any_goals (walk_at "x")); done)
  | (show EV _ _ (Expr.BinOp _ Operator.Mult _ _) _ _ _ _; refine' x_mul ?_ ?_ ?_; (any_goals (walk_at "x")); (any_goals (walk_at "mul")); done)
  | (show EV _ _ (Expr.Call (Expr.Attribute _ "get" _) _ _ _) _ _ _ _; refine' x_get ?_ ?_ ?_ ?_ (by assumption); (any_goals (walk_at "x")); (any_goals (walk_at "get")); done)
  | (show EV _ _ (Expr.Call (Expr.Name "len" _) _ _ _) _ _ _ _; refine' x_len ?_ ?_ (by assumption); (any_goals (walk_at "x")); (any_goals (walk_at "len")); done)
  | (show EV _ _ (Expr.Call (Expr.Name _ _) _ _ _) _ _ _ _; walk_at "u")
  | (show EV _ _ (Expr.Subscript _ (Expr.Slice _ _ _ _) _) _ _ _ _; refine' x_sl ?_ ?_ ?_ ?_; (any_goals (walk_at "x")); (any_goals (walk_at "op")); (any_goals (walk_at "sl")); done)
  | (show EV _ _ (Expr.Subscript _ _ _) _ _ _ _; refine' x_ix ?_ ?_ ?_; (any_goals (walk_at "x")); (any_goals (walk_at "ix")); done)
  | (show EV _ _ (Expr.Tuple _ _ _) _ _ _ _; refine' x_tup ?_; (any_goals (walk_at "xs")); done)
  | (show EV _ _ (Expr.List _ _) _ _ _ _; refine' x_lst ?_; (any_goals (walk_at "xs")); done)
  | (show EV _ _ (Expr.Compare _ [CmpOp.Eq] _ _) _ _ _ _; refine' x_eq ?_ ?_ ?_ (by assumption); (any_goals (walk_at "x")); (any_goals (walk_at "eq")); done)
  | (show EV _ _ (Expr.Compare _ [CmpOp.NotEq] _ _) _ _ _ _; refine' x_ne ?_ ?_ ?_ (by assumption); (any_goals (walk_at "x")); (any_goals (walk_at "eq")); done)
  | (show EV _ _ (Expr.Compare _ [CmpOp.Lt] _ _) _ _ _ _; refine' x_lt ?_ ?_ ?_; (any_goals (walk_at "x")); (any_goals (walk_at "lt")); done)
  | (show EV _ _ (Expr.Compare _ [CmpOp.Gt] _ _) _ _ _ _; refine' x_gt ?_ ?_ ?_; (any_goals (walk_at "x")); (any_goals (walk_at "le")); done)
  | (show EV _ _ (Expr.Compare _ [CmpOp.LtE] _ _) _ _ _ _; refine' x_le ?_ ?_ ?_; (any_goals (walk_at "x")); (any_goals (walk_at "le")); done)
  | (show EV _ _ (Expr.UnaryOp _ _ _) _ _ _ _; refine' ev_not ?_; (any_goals (walk_at "x")); done))
local macro_rules | `(tactic| walk_at "t") => `(tactic| first
  | (show TV _ _ (Expr.Compare _ [CmpOp.Eq] _ _) _ _ _ _; refine' t_eq ?_ ?_ ?_ (by assumption); (any_goals (walk_at "x")); (any_goals (walk_at "eq")); done)
  | (show TV _ _ (Expr.Compare _ [CmpOp.NotEq] _ _) _ _ _ _; refine' t_ne ?_ ?_ ?_ (by assumption); (any_goals (walk_at "x")); (any_goals (walk_at "eq")); done)
  | (show TV _ _ (Expr.Compare _ [CmpOp.Lt] _ _) _ _ _ _; refine' t_lt ?_ ?_ ?_; (any_goals (walk_at "x")); (any_goals (walk_at "lt")); done)
  | (show TV _ _ (Expr.Compare _ [CmpOp.Gt] _ _) _ _ _ _; refine' t_gt ?_ ?_ ?_; (any_goals (walk_at "x")); (any_goals (walk_at "le")); done)
  | (show TV _ _ (Expr.Compare _ [CmpOp.LtE] _ _) _ _ _ _; refine' t_le ?_ ?_ ?_; (any_goals (walk_at "x")); (any_goals (walk_at "le")); done)
  | (show TV _ _ (Expr.Compare _ [CmpOp.Is] _ _) _ _ _ _; refine' t_isN ?_; (any_goals (walk_at "x")); done)
  | (show TV _ _ (Expr.Compare _ [CmpOp.IsNot] _ _) _ _ _ _; refine' t_notN ?_; (any_goals (walk_at "x")); done)
  | (show TV _ _ (Expr.UnaryOp UnaryOp.Not _ _) _ _ _ _; refine' tv_not ?_; (any_goals (walk_at "t")); done)
  | (show TV _ _ _ _ _ _ _; refine' tv_e ?_; (any_goals (walk_at "x")); done))
theorem nd_len_le {α : Type} [DecidableEq α] : ∀ {l u : List α}, l.Nodup → (∀ x ∈ l, x ∈ u) → l.length ≤ u.length
  | [], _, _, _ => Nat.zero_le _
  | x :: l, u, h, s => by
    have hx := s x List.mem_cons_self
    have h1 := List.nodup_cons.mp h
    have h2 : l.length ≤ (u.erase x).length := nd_len_le h1.2 fun y hy => by
      have : y ≠ x := fun e => h1.1 (e ▸ hy)
      exact (List.mem_erase_of_ne this).mpr (s y (List.mem_cons_of_mem _ hy))
    rw [List.length_erase_of_mem hx] at h2
    have : 0 < u.length := List.length_pos_of_mem hx
    rw [List.length_cons]
    omega
theorem sum_pick {f : Nat → Nat} {x : Nat} : ∀ {ks : List Nat}, ks.Nodup → x ∈ ks → (ks.map fun k => if x = k then f k else 0).sum = f x
  | k :: ks, h, hx => by
    have h1 := List.nodup_cons.mp h
    by_cases e : x = k
    · subst e
      have : (ks.map fun k => if x = k then f k else 0).sum = 0 := by
        have : (ks.map fun k => if x = k then f k else 0) = ks.map fun _ => 0 := List.map_congr_left fun k hk => if_neg fun (e : x = k) => h1.1 (e ▸ hk)
        rw [this]
        clear h hx h1 this
        induction ks with
        | nil => rfl
        | cons a ks ih => simpa using ih
      simp [this]
    · have : x ∈ ks := by simpa [e] using hx
      simp [e, sum_pick h1.2 this]
theorem sum_addf {α : Type} (f g : α → Nat) : ∀ l : List α, (l.map fun k => f k + g k).sum = (l.map f).sum + (l.map g).sum
  | [] => rfl
  | a :: l => by simp [sum_addf f g l]; omega
theorem sum_cover {f : Nat → Nat} {ks : List Nat} (h : ks.Nodup) : ∀ {t : Tx}, (∀ x ∈ t, x ∈ ks) → (t.map f).sum = (ks.map fun k => t.count k * f k).sum
  | [], _ => by
    have : ∀ l : List Nat, (l.map fun k => List.count k ([] : Tx) * f k).sum = 0 := fun l => by
      induction l with
      | nil => rfl
      | cons a l ih => simpa using ih
    rw [this]; rfl
  | x :: t, hx => by
    have h1 := sum_cover (f := f) h (t := t) fun y hy => hx y (List.mem_cons_of_mem _ hy)
    have e : (ks.map fun k => (x :: t).count k * f k) = ks.map fun k => t.count k * f k + (if x = k then f k else 0) := List.map_congr_left fun k _ => by
      rw [List.count_cons]
      by_cases e : x = k
      · subst e; simp [Nat.add_mul]
      · simp [e]
    rw [e, sum_addf, ← h1, sum_pick h (hx x List.mem_cons_self)]
    simp [Nat.add_comm]
/-! ### tables of counts -/
theorem getC_put (F : Cnt) (o v c : Nat) : getC (putC F o v) c = if c = o then v else getC F c := by
  have hfind : ∀ F : Cnt, getC (F.map fun q => if q.1 = o then (q.1, v) else q) c = if c = o ∧ (F.any fun q => decide (q.1 = o)) = true then v else getC F c := fun F => by
    induction F with
    | nil => simp [getC]
    | cons q F ih =>
      unfold getC at *
      rw [List.map_cons, List.find?_cons, List.find?_cons, List.any_cons]
      by_cases h1 : q.1 = o
      · by_cases h2 : c = o
        · subst h2; simp [h1]
        · have h3 : ¬ q.1 = c := fun e => h2 (e.symm.trans h1)
          have h4 : ¬ o = c := fun e => h2 e.symm
          simp only [h1, if_true, decide_true, h4, decide_false, h2, false_and, if_false] at ih ⊢
          simpa [h2] using ih
      · by_cases h2 : q.1 = c
        · have h3 : ¬ c = o := fun e => h1 (h2.trans e)
          simp [h1, h2, h3]
        · simp only [h1, if_false, h2, decide_false, Bool.false_or]
          exact ih
  unfold putC
  split
  · rename_i h
    rw [hfind F]
    by_cases e : c = o <;> simp [e, h]
  · rename_i h
    unfold getC
    rw [List.find?_append]
    by_cases e : c = o
    · subst e
      have : (F.find? fun q => decide (q.1 = c)) = none := by
        rw [List.find?_eq_none]
        intro q hq hh
        exact h (List.any_eq_true.mpr ⟨q, hq, hh⟩)
      rw [this]
      simp
    · have h3 : ¬ o = c := fun x => e x.symm
      simp [h3, e]
theorem keys_put (F : Cnt) (o v : Nat) : (putC F o v).map (·.1) = if o ∈ F.map (·.1) then F.map (·.1) else F.map (·.1) ++ [o] := by
  unfold putC
  have e : (F.any fun q => decide (q.1 = o)) = true ↔ o ∈ F.map (·.1) := by
    rw [List.any_eq_true, List.mem_map]
    constructor
    · rintro ⟨q, hq, h⟩; exact ⟨q, hq, of_decide_eq_true h⟩
    · rintro ⟨q, hq, h⟩; exact ⟨q, hq, decide_eq_true h⟩
  by_cases h : o ∈ F.map (·.1)
  · rw [if_pos (e.mpr h), if_pos h, List.map_map]
    apply List.map_congr_left
    intro q _
    show (if q.1 = o then (q.1, v) else q).1 = q.1
    split <;> rfl
  · rw [if_neg (fun z => h (e.mp z)), if_neg h, List.map_append]
    rfl
theorem nd_put {F : Cnt} (h : (F.map (·.1)).Nodup) (o v : Nat) : ((putC F o v).map (·.1)).Nodup := by
  rw [keys_put]
  split
  · exact h
  · rename_i hn
    rw [List.nodup_append]
    refine ⟨h, by simp, fun a ha b hb e => ?_⟩
    have : b = o := by simpa using hb
    exact hn (by rw [← this, ← e]; exact ha)
/-- C holds how often each sign is in t -/
structure Rep (C : Cnt) (t : Tx) : Prop where
  nd : (C.map (·.1)).Nodup
  ct : ∀ c, getC C c = t.count c
theorem getC_mem {C : Cnt} (h : (C.map (·.1)).Nodup) : ∀ {q : Nat × Nat}, q ∈ C → getC C q.1 = q.2 := by
  induction C with
  | nil => intro q hq; cases hq
  | cons p C ih =>
    intro q hq
    rw [List.map_cons, List.nodup_cons] at h
    unfold getC
    rw [List.find?_cons]
    rcases List.mem_cons.mp hq with rfl | hq
    · simp
    · have : ¬ p.1 = q.1 := fun e => h.1 (e ▸ List.mem_map_of_mem hq)
      simp only [this, decide_false]
      exact ih h.2 hq
theorem getC_no {C : Cnt} {c : Nat} (h : c ∉ C.map (·.1)) : getC C c = 0 := by
  unfold getC
  have : (C.find? fun q => decide (q.1 = c)) = none := by
    rw [List.find?_eq_none]
    intro q hq hh
    exact h (List.mem_map.mpr ⟨q, hq, of_decide_eq_true hh⟩)
  rw [this]
  rfl
theorem Rep.keys {C : Cnt} {t : Tx} (r : Rep C t) : ∀ x ∈ t, x ∈ C.map (·.1) := fun x hx => by
  by_cases h : x ∈ C.map (·.1)
  · exact h
  · have := r.ct x
    rw [getC_no h] at this
    have := List.count_pos_iff.mpr hx
    omega
theorem Rep.sum {C : Cnt} {t : Tx} (r : Rep C t) (f : Nat → Nat) : (t.map f).sum = (C.map fun q => q.2 * f q.1).sum := by
  rw [sum_cover r.nd r.keys, List.map_map]
  congr 1
  apply List.map_congr_left
  intro q hq
  show t.count q.1 * f q.1 = _
  rw [← r.ct, getC_mem r.nd hq]
theorem Rep.total {C : Cnt} {t : Tx} (r : Rep C t) : (C.map (·.2)).sum = t.length := by
  have h := r.sum fun _ => 1
  simp only [Nat.mul_one] at h
  rw [← h]
  clear h r
  induction t with
  | nil => rfl
  | cons a t ih => simp [ih]; omega
theorem rep_cnt1 (t : Tx) : Rep (cnt1 t) t := by
  have e : (cnt1 t).map (·.1) = dsg t := by unfold cnt1; rw [List.map_map]; exact List.map_id _
  refine ⟨by rw [e]; exact dsg_nodup t, fun c => ?_⟩
  by_cases h : c ∈ t
  · have hm : (c, t.count c) ∈ cnt1 t := List.mem_map.mpr ⟨c, dsg_mem.mpr h, rfl⟩
    exact getC_mem (by rw [e]; exact dsg_nodup t) hm
  · rw [getC_no (by rw [e]; exact fun z => h (dsg_mem.mp z)), List.count_eq_zero.mpr h]
theorem add_fold (n c : Nat) : ∀ (L : Cnt) (F : Cnt), getC (L.foldl (addC n) F) c = getC F c + n * (L.map fun p => if c = p.1 then p.2 else 0).sum
  | [], F => by simp
  | p :: L, F => by
    rw [List.foldl_cons, add_fold n c L, List.map_cons, List.sum_cons, Nat.mul_add]
    unfold addC
    rw [getC_put]
    split
    · rename_i e; subst e; omega
    · omega
theorem nd_add_fold (n : Nat) : ∀ (L F : Cnt), (F.map (·.1)).Nodup → ((L.foldl (addC n) F).map (·.1)).Nodup
  | [], F, h => h
  | p :: L, F, h => nd_add_fold n L _ (nd_put h _ _)
theorem inn_get (T : Lay) (F : Cnt) (q : Nat × Nat) (c : Nat) : getC (innC T F q) c = getC F c + q.2 * (w1 T q.1).count c := by
  unfold innC
  rw [add_fold]
  congr 2
  unfold cnt1
  rw [List.map_map]
  by_cases h : c ∈ w1 T q.1
  · exact sum_pick (f := fun k => (w1 T q.1).count k) (dsg_nodup _) (dsg_mem.mpr h)
  · have : ((dsg (w1 T q.1)).map ((fun p : Nat × Nat => if c = p.1 then p.2 else 0) ∘ fun c => (c, (w1 T q.1).count c))) = (dsg (w1 T q.1)).map fun _ => 0 := List.map_congr_left fun k hk => if_neg fun e => h (by rw [show c = k from e]; exact dsg_mem.mp hk)
    rw [this, List.count_eq_zero.mpr h]
    generalize dsg (w1 T q.1) = l
    induction l with
    | nil => rfl
    | cons a l ih => simpa using ih
theorem run_fold (T : Lay) (c : Nat) : ∀ (C F : Cnt), getC (C.foldl (innC T) F) c = getC F c + (C.map fun q => q.2 * (w1 T q.1).count c).sum
  | [], F => by simp
  | q :: C, F => by rw [List.foldl_cons, run_fold T c C, inn_get, List.map_cons, List.sum_cons]; omega
theorem nd_run_fold (T : Lay) : ∀ (C F : Cnt), (F.map (·.1)).Nodup → ((C.foldl (innC T) F).map (·.1)).Nodup
  | [], F, h => h
  | q :: C, F, h => nd_run_fold T C _ (nd_add_fold _ _ _ h)
theorem count_wL (L : Lay) (c : Nat) : ∀ t : Tx, (wL L t).count c = (t.map fun x => (w1 L x).count c).sum
  | [] => rfl
  | x :: t => by
    show ((w1 L x) ++ wL L t).count c = _
    rw [List.count_append, count_wL L c t]
    rfl
theorem rep_run {T : Lay} {C : Cnt} {t : Tx} (r : Rep C t) : Rep (runC T C) (wL T t) := by
  refine ⟨nd_run_fold T C [] (by simp), fun c => ?_⟩
  unfold runC
  rw [run_fold, count_wL, r.sum]
  show getC [] c + _ = _
  simp [getC]
/-- all keys stay in U -/
theorem keys_add (n : Nat) (U : List Nat) : ∀ (L F : Cnt), (∀ p ∈ L, p.1 ∈ U) → (∀ k ∈ F.map (·.1), k ∈ U) → ∀ k ∈ (L.foldl (addC n) F).map (·.1), k ∈ U
  | [], F, _, h => h
  | p :: L, F, hL, h => keys_add n U L _ (fun q hq => hL q (List.mem_cons_of_mem _ hq)) fun k hk => by
    unfold addC at hk
    rw [keys_put] at hk
    split at hk
    · exact h k hk
    · rcases List.mem_append.mp hk with hk | hk
      · exact h k hk
      · rw [List.mem_singleton.mp hk]; exact hL p List.mem_cons_self
theorem keys_run (T : Lay) (U : List Nat) (hU : ∀ c ∈ U, ∀ x ∈ w1 T c, x ∈ U) : ∀ (C F : Cnt), (∀ q ∈ C, q.1 ∈ U) → (∀ k ∈ F.map (·.1), k ∈ U) → ∀ k ∈ (C.foldl (innC T) F).map (·.1), k ∈ U
  | [], F, _, h => h
  | q :: C, F, hC, h => keys_run T U hU C _ (fun p hp => hC p (List.mem_cons_of_mem _ hp)) fun k hk => keys_add q.2 U _ _ (fun p hp => by
      unfold cnt1 at hp
      obtain ⟨c, hc, rfl⟩ := List.mem_map.mp hp
      exact hU q.1 (hC q List.mem_cons_self) c (dsg_mem.mp hc)) h k hk
/-- n runs -/
def wR (T : Lay) : Nat → Tx → Tx
  | 0, t => t
  | n + 1, t => wL T (wR T n t)
def cR (T : Lay) : Nat → Cnt → Cnt
  | 0, C => C
  | n + 1, C => runC T (cR T n C)
theorem rep_cR {T : Lay} {C : Cnt} {t : Tx} (r : Rep C t) : ∀ n, Rep (cR T n C) (wR T n t)
  | 0 => r
  | n + 1 => rep_run (rep_cR r n)
theorem keys_cR {T : Lay} {U : List Nat} (hU : ∀ c ∈ U, ∀ x ∈ w1 T c, x ∈ U) {C : Cnt} (h : ∀ q ∈ C, q.1 ∈ U) : ∀ n, ∀ q ∈ cR T n C, q.1 ∈ U
  | 0 => h
  | n + 1 => fun q hq => keys_run T U hU _ [] (keys_cR hU h n) (fun k hk => by cases hk) q.1 (List.mem_map_of_mem hq)
theorem cR_len {T : Lay} {U : List Nat} {t : Tx} (hU : ∀ c ∈ U, ∀ x ∈ w1 T c, x ∈ U) (h : ∀ c ∈ t, c ∈ U) (n : Nat) : (cR T n (cnt1 t)).length ≤ U.length := by
  have h1 := (rep_cR (T := T) (rep_cnt1 t) n).nd
  have h2 := nd_len_le h1 (u := U) fun k hk => by
    obtain ⟨q, hq, rfl⟩ := List.mem_map.mp hk
    exact keys_cR hU (fun q hq => by
      unfold cnt1 at hq
      obtain ⟨c, hc, rfl⟩ := List.mem_map.mp hq
      exact h c (dsg_mem.mp hc)) n q hq
  rwa [List.length_map] at h2
theorem sum_casts : ∀ l : List Nat, (l.map fun (n : Nat) => (n : Int)).sum = ((l.sum : Nat) : Int)
  | [] => rfl
  | a :: l => by simp [sum_casts l]
/-- what keeps the signs few -/
structure Few (T : Lay) (t : Tx) (U : List Nat) : Prop where
  few : U.length ≤ 1000
  cl : ∀ c ∈ U, ∀ x ∈ w1 T c, x ∈ U
  tx : ∀ c ∈ t, c ∈ U
  wd : ∀ c ∈ U, (w1 T c).length ≤ 100000
section
variable {P : Program} {w : World} {K : PySem.W.Frag} {mg : Str → Option Value} {base : Heap}
/-! ### length_by_runs -/
inductive FLenRuns : List PyData → PyData → Prop
  | mk {T : Lay} {t : Tx} {n : Nat} {U : List Nat} (hU : Few T t U) (hn : n ≤ 100000) : FLenRuns [dK (tKv T), dS t, .int n] (.int ((wR T n t).length : Nat))
theorem c_length_by_runs (D : Dfn K mg "length_by_runs" s_length_by_runs) (b : Bn mg) (c1 : Cal P w K mg base "counted" 1 ["text"] (PF FCounted)) (c2 : Cal P w K mg base "run_counts" 2 ["known", "counts"] (PF FRunCounts)) : Cal P w K mg base "length_by_runs" 3 ["known", "text", "times"] (PF FLenRuns) := by
  refine cal_pf D sc_length_by_runs (fun _ _ _ _ _ _ us hl => match us, hl with | [_, _, _], _ => rfl) (fun _ _ h => by cases h; rfl) ?_
  rintro f cdv A outer s H E R ds d hr hF
  have nd := sc_length_by_runs.nd
  cases hF with | @mk T t n U hU hn
  have hlen := fun n => Nat.le_trans (cR_len (T := T) (t := t) hU.cl hU.tx n) hU.few
  have hk := fun n => keys_cR hU.cl (C := cnt1 t) (fun q hq => by
    unfold cnt1 at hq
    obtain ⟨c, hc, rfl⟩ := List.mem_map.mp hq
    exact hU.tx c (dsg_mem.mp hc)) n
  have h0 : FCounted [dS t] (dK (cKv (cnt1 t))) := .mk hU.tx hU.few
  refine sj_set 3 (k := .dat (dK (cKv (cnt1 t)))) (x_call c1 (a_cons (ev_v 1) a_nil) h0 hr) ?_ nd
  refine sj_forL 4 (xs := List.range n) (fun pre ss O => ∃ k, ss = [.dat (dK (tKv T)), .dat (dS t), .dat (.int n), .dat (dK (cKv (cR T pre.length (cnt1 t)))), k] ∧ O = []) nd (il_range (ev_v 2) rfl (by omega) b.range) ⟨_, rfl, rfl⟩ ?_ ?_
  · rintro pre i post e ss1 O1 ⟨k, rfl, rfl⟩
    have hC := hlen pre.length
    have h1 : FRunCounts [dK (tKv T), dK (cKv (cR T pre.length (cnt1 t)))] (dK (cKv (runC T (cR T pre.length (cnt1 t))))) := .mk (fun q hq => hU.cl q.1 (hk _ q hq)) hU.few (fun q hq => hU.wd q.1 (hk _ q hq)) hC
    refine sj_set 3 (k := .dat (dK (cKv (runC T (cR T pre.length (cnt1 t)))))) (x_call c2 (a_cons (ev_v 0) (a_cons (ev_v 3) a_nil)) h1 hr) ?_ nd
    exact sj_nil ⟨_, by rw [List.length_append]; rfl, rfl⟩
  · rintro ss1 O1 ⟨k, rfl, rfl⟩
    rw [List.length_range]
    refine sj_ret (x_sumVals (is := (cR T n (cnt1 t)).map fun q => ((q.2 : Nat) : Int)) (ev_v 3) (by unfold cKv; rw [List.map_map, List.map_map]; rfl) b) ?_
    have e : ((cR T n (cnt1 t)).map fun q => ((q.2 : Nat) : Int)).sum = ((wR T n t).length : Nat) := by
      rw [← (rep_cR (T := T) (rep_cnt1 t) n).total, ← sum_casts, List.map_map]
      rfl
    rw [e]
end
end Fc
end
section
namespace Fc
open PySem PySem.Spec PyProof.Rows L2 Dl
open Evl (Ex)
local macro_rules | `(tactic| walk_at "v") => `(tactic| first | exact ev_v 0 | exact ev_v 1 | exact ev_v 2 | exact ev_v 3 | exact ev_v 4 | exact ev_v 5 | exact ev_v 6 | exact ev_v 7 | exact ev_v 8 | exact ev_v 9 | exact ev_v 10 | exact ev_v 11 | exact ev_v 12 | exact ev_v 13 | exact ev_v 14 | exact ev_v 15 | exact ev_v 16)
local macro_rules | `(tactic| walk_at "side") => `(tactic| first | assumption | rfl | decide | omega | (simp only [List.length_map, List.length_append, List.length_cons, List.length_nil, List.length_singleton] at *; omega))
local macro_rules | `(tactic| walk_at "ck") => `(tactic| (constructor <;> walk_at "side"))
local macro_rules | `(tactic| walk_at "add") => `(tactic| first | exact AddK.nat _ _ | exact AddK.nat1 _ | exact AddK.one _ | exact AddK.int _ _ | (refine AddK.str ?_; walk_at "side") | (refine AddK.lstM ?_; walk_at "side") | (refine AddK.tupM ?_; walk_at "side") | (refine AddK.lst ?_; walk_at "side") | (refine AddK.tup ?_; walk_at "side"))
local macro_rules | `(tactic| walk_at "mul") => `(tactic| first | (refine MulK.nat _ _ ?_; walk_at "side") | (refine MulK.int _ _ ?_; walk_at "side") | (refine MulK.str ?_ ?_ <;> walk_at "side") | (refine MulK.lst ?_ ?_ <;> walk_at "side"))
local macro_rules | `(tactic| walk_at "eq") => `(tactic| first | exact EqK.nat _ _ | exact EqK.int _ _ | exact EqK.str _ _ | exact EqK.bool _ _ | exact EqK.nonS _ | exact EqK.strN _ | exact EqK.intS _ _ | exact EqK.strI _ _ | exact EqK.nonI _ | exact EqK.intN _ | exact EqK.nonN | (refine EqK.gen ?_ ?_ ?_ <;> walk_at "side"))
local macro_rules | `(tactic| walk_at "lt") => `(tactic| first | exact LtK.nat _ _ | exact LtK.int _ _ | exact LtK.str _ _)
local macro_rules | `(tactic| walk_at "le") => `(tactic| first | exact LeK.nat _ _ | exact LeK.int _ _)
local macro_rules | `(tactic| walk_at "len") => `(tactic| first | (refine LenK.str ?_; walk_at "side") | exact LenK.lstM _ | exact LenK.tupM _ | exact LenK.lst _ | exact LenK.tup _)
local macro_rules | `(tactic| walk_at "ix") => `(tactic| first | (refine IxK.lst ?_; first | rfl | assumption) | (refine IxK.tup ?_; first | rfl | assumption) | (refine IxK.lN ?_; first | rfl | assumption) | (refine IxK.tN ?_; first | rfl | assumption) | (refine IxK.sN ?_ ?_ <;> walk_at "side"))
local macro_rules | `(tactic| walk_at "get") => `(tactic| first | exact GetK.mk _ _ _)
local macro_rules | `(tactic| walk_at "sl") => `(tactic| first | exact SlK.tFrom _ _ | exact SlK.tTo _ _ | exact SlK.lFrom _ _ | exact SlK.lTo _ _ | (refine SlK.sFrom _ _ ?_; walk_at "side") | (refine SlK.sTo _ _ ?_; walk_at "side") | (refine SlK.sMid _ _ _ ?_; walk_at "side") | exact SlK.tup _ _ _ | exact SlK.lst _ _ _ | (refine SlK.str ?_; walk_at "side"))
local macro_rules | `(tactic| walk_at "lit") => `(tactic| first | exact ev_strE (y := sL []) (by decide +kernel))
local macro_rules | `(tactic| walk_at "op") => `(tactic| (show OpI _ _ _ _ _ _ _; first | exact op_none | (refine' op_some ?_; (any_goals (walk_at "x")); done)))
local macro_rules | `(tactic| walk_at "blk") => `(tactic| exact blkOk_by (by kernel_rfl))
local macro_rules | `(tactic| walk_at "il") => `(tactic| first
  | (refine' il_tup ?_; (any_goals (walk_at "x")); done)
  | (refine' il_list ?_; (any_goals (walk_at "x")); done)
  | (refine' il_str ?_; (any_goals (walk_at "x")); done))
local macro_rules | `(tactic| walk_at "xs") => `(tactic| (show AV _ _ _ _ _ _ _; first | exact a_nil | (refine' a_cons ?_ ?_; (any_goals (walk_at "x")); (any_goals (walk_at "xs")); done)))
local macro_rules | `(tactic| walk_at "u") => `(tactic| (refine' x_call (by assumption) ?_ ?_ (by assumption); (any_goals (walk_at "xs")); (any_goals (walk_at "ck")); done))
local macro_rules | `(tactic| walk_at "x") => `(tactic| first
  | (show EV _ _ (Expr.Name _ _) _ _ _ _; walk_at "v")
  | (show EV _ _ (Expr.Constant _ _ _) _ _ _ _; first | exact ev_int | exact ev_bl | exact ev_non | walk_at "lit")
  | (show EV _ _ (Expr.BinOp _ Operator.Add _ _) _ _ _ _; refine' x_add ?_ ?_ ?_; (any_goals (walk_at "x")); (any_goals (walk_at "add")); done)
  | (show EV _ _ (Expr.BinOp _ Operator.Sub _ _) _ _ _ _; refine' x_sub ?_ ?_; (any_goals (walk_at "x")); done)
  | (show EV _ _ (Expr.BinOp _ Operator.Mult _ _) _ _ _ _; refine' x_mul ?_ ?_ ?_; (any_goals (walk_at "x")); (any_goals (walk_at "mul")); done)
  | (show EV _ _ (Expr.Call (Expr.Attribute _ "get" _) _ _ _) _ _ _ _; refine' x_get ?_ ?_ ?_ ?_ (by assumption); (any_goals (walk_at "x")); (any_goals (walk_at "get")); done)
  | (show EV _ _ (Expr.Call (Expr.Name "len" _) _ _ _) _ _ _ _; refine' x_len ?_ ?_ (by assumption); (any_goals (walk_at "x")); (any_goals (walk_at "len")); done)
  | (show EV _ _ (Expr.Call (Expr.Name _ _) _ _ _) _ _ _ _; walk_at "u")
  | (show EV _ _ (Expr.Subscript _ (Expr.Slice _ _ _ _) _) _ _ _ _; refine' x_sl ?_ ?_ ?_ ?_; (any_goals (walk_at "x")); (any_goals (walk_at "op")); (any_goals (walk_at "sl")); done)
  | (show EV _ _ (Expr.Subscript _ _ _) _ _ _ _; refine' x_ix ?_ ?_ ?_; (any_goals (walk_at "x")); (any_goals (walk_at "ix")); done)
  | (show EV _ _ (Expr.Tuple _ _ _) _ _ _ _; refine' x_tup ?_; (any_goals (walk_at "xs")); done)
  | (show EV _ _ (Expr.List _ _) _ _ _ _; refine' x_lst ?_; (any_goals (walk_at "xs")); done)
  | (show EV _ _ (Expr.Compare _ [CmpOp.Eq] _ _) _ _ _ _; refine' x_eq ?_ ?_ ?_ (by assumption); (any_goals (walk_at "x")); (any_goals (walk_at "eq")); done)
  | (show EV _ _ (Expr.Compare _ [CmpOp.NotEq] _ _) _ _ _ _; refine' x_ne ?_ ?_ ?_ (by assumption); (any_goals (walk_at "x")); (any_goals (walk_at "eq")); done)
  | (show EV _ _ (Expr.Compare _ [CmpOp.Lt] _ _) _ _ _ _; refine' x_lt ?_ ?_ ?_; (any_goals (walk_at "x")); (any_goals (walk_at "lt")); done)
  | (show EV _ _ (Expr.Compare _ [CmpOp.Gt] _ _) _ _ _ _; refine' x_gt ?_ ?_ ?_; (any_goals (walk_at "x")); (any_goals (walk_at "le")); done)
  | (show EV _ _ (Expr.Compare _ [CmpOp.LtE] _ _) _ _ _ _; refine' x_le ?_ ?_ ?_; (any_goals (walk_at "x")); (any_goals (walk_at "le")); done)
  | (show EV _ _ (Expr.UnaryOp _ _ _) _ _ _ _; refine' ev_not ?_; (any_goals (walk_at "x")); done))
local macro_rules | `(tactic| walk_at "t") => `(tactic| first
  | (show TV _ _ (Expr.Compare _ [CmpOp.Eq] _ _) _ _ _ _; refine' t_eq ?_ ?_ ?_ (by assumption); (any_goals (walk_at "x")); (any_goals (walk_at "eq")); done)
  | (show TV _ _ (Expr.Compare _ [CmpOp.NotEq] _ _) _ _ _ _; refine' t_ne ?_ ?_ ?_ (by assumption); (any_goals (walk_at "x")); (any_goals (walk_at "eq")); done)
  | (show TV _ _ (Expr.Compare _ [CmpOp.Lt] _ _) _ _ _ _; refine' t_lt ?_ ?_ ?_; (any_goals (walk_at "x")); (any_goals (walk_at "lt")); done)
  | (show TV _ _ (Expr.Compare _ [CmpOp.Gt] _ _) _ _ _ _; refine' t_gt ?_ ?_ ?_; (any_goals (walk_at "x")); (any_goals (walk_at "le")); done)
  | (show TV _ _ (Expr.Compare _ [CmpOp.LtE] _ _) _ _ _ _; refine' t_le ?_ ?_ ?_; (any_goals (walk_at "x")); (any_goals (walk_at "le")); done)
  | (show TV _ _ (Expr.Compare _ [CmpOp.Is] _ _) _ _ _ _; refine' t_isN ?_; (any_goals (walk_at "x")); done)
  | (show TV _ _ (Expr.Compare _ [CmpOp.IsNot] _ _) _ _ _ _; refine' t_notN ?_; (any_goals (walk_at "x")); done)
  | (show TV _ _ (Expr.UnaryOp UnaryOp.Not _ _) _ _ _ _; refine' tv_not ?_; (any_goals (walk_at "t")); done)
  | (show TV _ _ _ _ _ _ _; refine' tv_e ?_; (any_goals (walk_at "x")); done))
/-- a valid layer, a valid text -/
structure LOk (L : Lay) : Prop where
  len : L.length ≤ 8
  ok : ∀ q ∈ L, pOk q
  ord : (L.map (·.1)).Pairwise (· < ·)
abbrev SOk (Ls : List Lay) : Prop := ∀ L ∈ Ls, LOk L
abbrev TOk (t : Tx) : Prop := ∀ c ∈ t, c ∈ SGN
theorem LOk.nd {L : Lay} (h : LOk L) : (L.map (·.1)).Nodup := h.ord.imp fun h => Nat.ne_of_lt h
theorem lk_mem {L : Lay} {c : Nat} {t : Tx} (h : lk L c = some t) : (c, t) ∈ L := by
  unfold lk at h
  cases e : L.find? fun q => decide (q.1 = c) with
  | none => rw [e] at h; cases h
  | some q =>
    rw [e] at h
    have h1 := List.mem_of_find?_eq_some e
    have h2 : q.1 = c := by simpa using List.find?_some e
    have h3 : q.2 = t := by simpa using h
    rw [← h2, ← h3]
    exact h1
theorem lk_none {L : Lay} {c : Nat} (h : c ∉ L.map (·.1)) : lk L c = none := by
  unfold lk
  have : (L.find? fun q => decide (q.1 = c)) = none := by
    rw [List.find?_eq_none]
    intro q hq hh
    exact h (List.mem_map.mpr ⟨q, hq, of_decide_eq_true hh⟩)
  rw [this]
  rfl
theorem w1_none {L : Lay} {c : Nat} (h : c ∉ L.map (·.1)) : w1 L c = [c] := by unfold w1; rw [lk_none h]; rfl
theorem w1_cases {L : Lay} (c : Nat) : w1 L c = [c] ∨ (c, w1 L c) ∈ L := by
  unfold w1
  cases e : lk L c with
  | none => exact .inl rfl
  | some t => exact .inr (lk_mem e)
theorem w1_len {L : Lay} (h : LOk L) (c : Nat) : 1 ≤ (w1 L c).length ∧ (w1 L c).length ≤ 6 := by
  rcases w1_cases (L := L) c with e | e
  · rw [e]; exact ⟨by simp, by simp⟩
  · have := h.ok _ e; exact ⟨this.2.1, this.2.2.1⟩
theorem w1_ok {L : Lay} (h : LOk L) {c : Nat} (hc : c ∈ SGN) : TOk (w1 L c) := by
  rcases w1_cases (L := L) c with e | e
  · rw [e]; intro x hx; rw [List.mem_singleton.mp hx]; exact hc
  · exact (h.ok _ e).2.2.2
theorem wL_app (L : Lay) (s t : Tx) : wL L (s ++ t) = wL L s ++ wL L t := by unfold wL; rw [List.flatMap_append]
theorem wL_cons (L : Lay) (c : Nat) (t : Tx) : wL L (c :: t) = w1 L c ++ wL L t := rfl
theorem wL_one (L : Lay) (c : Nat) : wL L [c] = w1 L c := by show w1 L c ++ [] = _; rw [List.append_nil]
theorem wL_nil (L : Lay) : wL L [] = [] := rfl
theorem wL_len {L : Lay} (h : LOk L) : ∀ t : Tx, t.length ≤ (wL L t).length ∧ (wL L t).length ≤ 6 * t.length
  | [] => by simp [wL]
  | c :: t => by
    have h1 := w1_len h c
    have h2 := wL_len h t
    rw [wL_cons, List.length_append, List.length_cons]
    omega
theorem wL_ok {L : Lay} (h : LOk L) {t : Tx} (ht : TOk t) : TOk (wL L t) := by
  intro c hc
  obtain ⟨x, hx, hc⟩ := List.mem_flatMap.mp hc
  exact w1_ok h (ht x hx) c hc
theorem wS_nil (Ls : List Lay) : wS Ls [] = [] := by
  unfold wS
  induction Ls with
  | nil => rfl
  | cons L Ls ih => exact ih
theorem wS_cons (L : Lay) (Ls : List Lay) (t : Tx) : wS (L :: Ls) t = wS Ls (wL L t) := rfl
theorem wS_app : ∀ (Ls : List Lay) (s t : Tx), wS Ls (s ++ t) = wS Ls s ++ wS Ls t
  | [], _, _ => rfl
  | L :: Ls, s, t => by rw [wS_cons, wS_cons, wS_cons, wL_app, wS_app Ls]
theorem wS_stk (Ls Ms : List Lay) (t : Tx) : wS (Ls ++ Ms) t = wS Ms (wS Ls t) := by unfold wS; rw [List.foldl_append]
theorem wS_flat (Ls : List Lay) : ∀ t : Tx, wS Ls t = t.flatMap fun c => wS Ls [c]
  | [] => wS_nil Ls
  | c :: t => by
    have e : c :: t = [c] ++ t := rfl
    rw [e, wS_app, wS_flat Ls t, List.flatMap_append]
    congr 1
    show _ = wS Ls [c] ++ []
    rw [List.append_nil]
theorem wS_len {Ls : List Lay} (h : SOk Ls) : ∀ t : Tx, t.length ≤ (wS Ls t).length ∧ (wS Ls t).length ≤ 6 ^ Ls.length * t.length := by
  induction Ls with
  | nil => intro t; simp [wS]
  | cons L Ls ih =>
    intro t
    have h1 := wL_len (h L List.mem_cons_self) t
    have h2 := ih (fun M hM => h M (List.mem_cons_of_mem _ hM)) (wL L t)
    rw [wS_cons]
    refine ⟨by omega, Nat.le_trans h2.2 ?_⟩
    rw [List.length_cons, Nat.pow_succ, Nat.mul_assoc]
    exact Nat.mul_le_mul_left _ h1.2
theorem wS_ok {Ls : List Lay} (h : SOk Ls) {t : Tx} (ht : TOk t) : TOk (wS Ls t) := by
  induction Ls generalizing t with
  | nil => exact ht
  | cons L Ls ih => exact ih (fun M hM => h M (List.mem_cons_of_mem _ hM)) (wL_ok (h L List.mem_cons_self) ht)
theorem wS_no {Ls : List Lay} {c : Nat} (h : c ∉ sgs Ls) : wS Ls [c] = [c] := by
  induction Ls with
  | nil => rfl
  | cons L Ls ih =>
    have h1 : c ∉ L.map (·.1) := fun z => h (List.mem_flatMap.mpr ⟨L, List.mem_cons_self, z⟩)
    have h2 : c ∉ sgs Ls := fun z => by
      obtain ⟨M, hM, z⟩ := List.mem_flatMap.mp z
      exact h (List.mem_flatMap.mpr ⟨M, List.mem_cons_of_mem _ hM, z⟩)
    rw [wS_cons, wL_one, w1_none h1, ih h2]
theorem lk_map {ks : List Nat} {f : Nat → Tx} {c : Nat} (h : c ∈ ks) : lk (ks.map fun c => (c, f c)) c = some (f c) := by
  unfold lk
  induction ks with
  | nil => cases h
  | cons k ks ih =>
    rw [List.map_cons, List.find?_cons]
    by_cases e : k = c
    · subst e; simp
    · simp only [e, decide_false]
      exact ih (by simpa [Ne.symm e] using h)
theorem w1_res (Ls : List Lay) (c : Nat) : w1 (res Ls) c = wS Ls [c] := by
  by_cases h : c ∈ sgs Ls
  · unfold w1 res
    rw [lk_map (dsg_mem.mpr h)]
    rfl
  · rw [wS_no h]
    refine w1_none ?_
    rw [dsg_res]
    exact fun z => h (dsg_mem.mp z)
theorem wL_res (Ls : List Lay) (t : Tx) : wL (res Ls) t = wS Ls t := by
  rw [wS_flat]
  unfold wL
  congr 1
  funext c
  exact w1_res Ls c
/-- n runs of a stack -/
def rn (Ls : List Lay) : Nat → Tx → Tx
  | 0, t => t
  | n + 1, t => wS Ls (rn Ls n t)
theorem wR_res (Ls : List Lay) : ∀ (n : Nat) (t : Tx), wR (res Ls) n t = rn Ls n t
  | 0, _ => rfl
  | n + 1, t => by show wL (res Ls) (wR (res Ls) n t) = wS Ls (rn Ls n t); rw [wL_res, wR_res Ls n]
theorem rn_ok {Ls : List Lay} (h : SOk Ls) {t : Tx} (ht : TOk t) : ∀ n, TOk (rn Ls n t)
  | 0 => ht
  | n + 1 => wS_ok h (rn_ok h ht n)
theorem rn_mono {Ls : List Lay} (h : SOk Ls) (t : Tx) {m n : Nat} (l : m ≤ n) : (rn Ls m t).length ≤ (rn Ls n t).length := by
  induction n with
  | zero => rw [Nat.le_zero.mp l]; exact Nat.le_refl _
  | succ n ih =>
    rcases Nat.lt_or_eq_of_le l with h1 | rfl
    · exact Nat.le_trans (ih (Nat.le_of_lt_succ h1)) (wS_len h _).1
    · exact Nat.le_refl _
theorem pow6 {n : Nat} (h : n ≤ 6) : 6 ^ n ≤ 46656 := Nat.le_trans (Nat.pow_le_pow_right (by decide) h) (by decide)
theorem sgs_len {Ls : List Lay} (h : SOk Ls) : (sgs Ls).length ≤ 8 * Ls.length := by
  unfold sgs
  induction Ls with
  | nil => simp
  | cons L Ls ih =>
    have h1 := (h L List.mem_cons_self).len
    have h2 := ih fun M hM => h M (List.mem_cons_of_mem _ hM)
    rw [List.flatMap_cons, List.length_append, List.length_map, List.length_cons]
    omega
theorem fres {Ls : List Lay} (h : SOk Ls) (hl : Ls.length ≤ 6) : FResults [stkD Ls] (dK (tKv (res Ls))) := by
  refine .mk (fun L hL => (h L hL).nd) (fun c pre post e => ?_) (by have := sgs_len h; omega)
  have h1 := (wS_len (fun L hL => h L (by rw [e]; exact List.mem_append_left _ hL) : SOk pre) [c]).2
  have h2 : pre.length ≤ 6 := by rw [e, List.length_append] at hl; omega
  have h3 := pow6 h2
  simp only [List.length_cons, List.length_nil] at h1
  omega
theorem sgn_len : SGN.length ≤ 1000 := by decide
theorem few_res {Ls : List Lay} (h : SOk Ls) (hl : Ls.length ≤ 6) {t : Tx} (ht : TOk t) : Few (res Ls) t SGN := by
  refine ⟨sgn_len, fun c hc => ?_, ht, fun c hc => ?_⟩
  · rw [w1_res]
    exact wS_ok h (fun x hx => by rw [List.mem_singleton.mp hx]; exact hc)
  · rw [w1_res]
    have h1 := (wS_len h [c]).2
    have h3 := pow6 hl
    simp only [List.length_cons, List.length_nil] at h1
    omega
theorem flen {Ls : List Lay} (h : SOk Ls) (hl : Ls.length ≤ 6) {t : Tx} (ht : TOk t) {n : Nat} (hn : n ≤ 100000) : FLenRuns [dK (tKv (res Ls)), dS t, .int n] (.int ((rn Ls n t).length : Nat)) := by
  rw [← wR_res]
  exact .mk (few_res h hl ht) hn
/-! ### what is_stack says of valid stacks -/
theorem sgn_ok {c : Nat} (h : c ∈ SGN) : c < 128 ∧ c ≠ 37 := by
  have h1 := sgn_lt c h
  refine ⟨by omega, fun e => ?_⟩
  subst e
  exact absurd h (by decide)
theorem okD_pair {q : Nat × Tx} (h : pOk q) : okD 1 100 (pairD q) := by
  refine okD_mkT (by simp) fun d hd => ?_
  simp only [List.mem_cons, List.not_mem_nil, or_false] at hd
  rcases hd with rfl | rfl
  · exact okD_str.mpr ⟨by simp, fun c hc => by rw [List.mem_singleton.mp hc]; exact sgn_ok h.1⟩
  · exact okD_str.mpr ⟨by have := h.2.2.1; omega, fun c hc => sgn_ok (h.2.2.2 c hc)⟩
theorem okD_lay {L : Lay} (h : LOk L) : okD 2 100 (layD L) := by
  refine okD_mkT (by rw [List.length_map]; have := h.len; omega) fun d hd => ?_
  obtain ⟨q, hq, rfl⟩ := List.mem_map.mp hd
  exact okD_pair (h.ok q hq)
theorem okD_stk {Ls : List Lay} (h : SOk Ls) (hl : Ls.length ≤ 100) : okD 3 100 (stkD Ls) := by
  refine okD_mkT (by rw [List.length_map]; exact hl) fun d hd => ?_
  obtain ⟨L, hL, rfl⟩ := List.mem_map.mp hd
  exact okD_lay (h L hL)
theorem layB_ok {L : Lay} (h : LOk L) : layB (layD L) = true := layB_iff.mpr ⟨L, rfl, h.len, h.ok, h.ord⟩
theorem stkB_ok {Ls : List Lay} (h : SOk Ls) (hl : Ls.length ≤ 5) : stkB (stkD Ls) = true := by
  refine stkB_iff.mpr ⟨Ls.map layD, rfl, by rw [List.length_map]; exact hl, fun e he => ?_⟩
  obtain ⟨L, hL, rfl⟩ := List.mem_map.mp he
  exact layB_iff.mp (layB_ok (h L hL))
theorem isSgs_ok {t : Tx} (h : TOk t) {n : Nat} (hl : t.length ≤ n) : isSgs (dS t) 0 n = true := by
  rw [isSgs_S]
  simp only [Bool.and_eq_true, decide_eq_true_eq, List.all_eq_true]
  exact ⟨Nat.zero_le _, hl, h⟩
section
variable {P : Program} {w : World} {K : PySem.W.Frag} {mg : Str → Option Value} {base : Heap}
/-! ### need_stack, need_text -/
inductive FNeedS : List PyData → PyData → Prop
  | mk {Ls : List Lay} (h : SOk Ls) (hl : Ls.length ≤ 5) : FNeedS [stkD Ls] .none
theorem c_need_stack (D : Dfn K mg "need_stack" s_need_stack) (b : Bn mg) (c1 : Cal P w K mg base "is_stack" 4 ["value"] tIsStk) : Cal P w K mg base "need_stack" 5 ["value"] (PF FNeedS) := by
  refine cal_pf D sc_need_stack (fun _ _ _ _ _ _ us hl => match us, hl with | [_], _ => rfl) (fun _ _ h => by cases h; rfl) ?_
  rintro f cdv A outer s H E R ds d hr hF
  have nd := sc_need_stack.nd
  cases hF with | @mk Ls h hl
  refine sj_ifR (tv_not (tv_e (ev_cal c1 hr (by decide) (av_cons (ev_v 0) av_nil) ⟨stkD Ls, 3, 100, rfl, rfl, okD_stk h (by omega), by decide, rfl, rfl⟩))) (fun h1 => ?_) (fun _ => sj_nil rfl)
  rw [stkB_ok h hl] at h1
  cases h1
inductive FNeedT : List PyData → PyData → Prop
  | mk {t : Tx} (h : TOk t) (hl : t.length ≤ 200) : FNeedT [dS t] .none
theorem c_need_text (D : Dfn K mg "need_text" s_need_text) (b : Bn mg) (g : ∃ t, mg "MAX_TEXT" = some (.int 200 t)) (c1 : Cal P w K mg base "of_signs" 1 ["value", "least", "most"] tSigns) : Cal P w K mg base "need_text" 2 ["value"] (PF FNeedT) := by
  refine cal_pf D sc_need_text (fun _ _ _ _ _ _ us hl => match us, hl with | [_], _ => rfl) (fun _ _ h => by cases h; rfl) ?_
  rintro f cdv A outer s H E R ds d hr hF
  have nd := sc_need_text.nd
  cases hF with | @mk t h hl
  refine sj_ifR (tv_not (tv_e (ev_cal c1 hr (by decide) (av_cons (ev_v 0) (av_cons ev_int (av_cons (ev_globI rfl g) av_nil))) ⟨dS t, 1, 1000, 0, 200, rfl, rfl, okD_str.mpr ⟨by omega, fun c hc => sgn_ok (h c hc)⟩, by decide, rfl, rfl⟩))) (fun h1 => ?_) (fun _ => sj_nil rfl)
  rw [isSgs_ok h hl] at h1
  cases h1
/-! ### is_integer, need_times -/
inductive FIsInt : List PyData → PyData → Prop
  | int (i lo hi : Int) : FIsInt [.int i, .int lo, .int hi] (.bool (decide (lo ≤ i) && decide (i ≤ hi)))
  | no {d : PyData} (lo hi : Int) (h : isi d "int" = false ∨ isi d "bool" = true) : FIsInt [d, .int lo, .int hi] (.bool false)
theorem c_is_integer (D : Dfn K mg "is_integer" s_is_integer) (b : Bn mg) : Cal P w K mg base "is_integer" 1 ["value", "low", "high"] (PF FIsInt) := by
  refine cal_pf D sc_is_integer (fun _ _ _ _ _ _ us hl => match us, hl with | [_, _, _], _ => rfl) (fun _ _ h => by cases h <;> rfl) ?_
  rintro f cdv A outer s H E R ds d hr hF
  have nd := sc_is_integer.nd
  cases hF with
  | int i lo hi =>
    exact sj_ret (ev_and (ev_isi (ev_v 0) (ev_t b.int boot_int) (by decide) b.isi) (fun _ => ev_and (ev_not (ev_isi (ev_v 0) (ev_t b.bool boot_bool) (by decide) b.isi)) (fun _ => ev_one (ev_chainI (ev_v 1) (ev_v 0) (ev_v 2))) (fun _ => rfl)) (fun _ => rfl)) rfl
  | @no d lo hi h =>
    rcases h with h | h
    · refine sj_ret (ev_and (b2 := false) (ev_isi (ev_v 0) (ev_t b.int boot_int) (by decide) b.isi) (fun h1 => by rw [h] at h1; cases h1) (fun _ => rfl)) ?_
      rw [Bool.and_false]
    · refine sj_ret (ev_and (ev_isi (ev_v 0) (ev_t b.int boot_int) (by decide) b.isi) (fun _ => ev_and (b2 := false) (ev_not (ev_isi (ev_v 0) (ev_t b.bool boot_bool) (by decide) b.isi)) (fun h1 => by rw [h] at h1; cases h1) (fun _ => rfl)) (fun _ => rfl)) ?_
      rw [Bool.and_false, Bool.and_false]
inductive FNeedN : List PyData → PyData → Prop
  | mk {i : Nat} (h : i ≤ 1000) : FNeedN [.int i, .int 1000] .none
theorem c_need_times (D : DfnI K mg "need_times" s_need_times 1000) (b : Bn mg) (c1 : Cal P w K mg base "is_integer" 1 ["value", "low", "high"] (PF FIsInt)) : CalI P w K mg base "need_times" 2 ["value", "most"] 1000 (PF FNeedN) := by
  refine calI_pf D sc_need_times 1 rfl (fun T kV doc pm an cdv ct us its h1 h2 => match us, its, h1, h2 with | [_], [_], _, _ => ⟨_, rfl, rfl⟩) (fun _ _ h => by cases h; rfl) ?_
  rintro f cdv A outer s H E R ds d hr hF
  have nd := sc_need_times.nd
  cases hF with | @mk i h
  refine sj_ifR (tv_not (tv_e (x_call c1 (a_cons (ev_v 0) (a_cons ev_int (a_cons (ev_v 1) a_nil))) (.int _ _ _) hr))) (fun h1 => ?_) (fun _ => sj_nil rfl)
  rw [decide_eq_true (by omega : (0 : Int) ≤ i), decide_eq_true (by omega : (i : Int) ≤ 1000)] at h1
  cases h1
end
end Fc
end
section
namespace Fc
open PySem PySem.Spec PyProof.Rows L2 Dl
open Evl (Ex)
local macro_rules | `(tactic| walk_at "v") => `(tactic| first | exact ev_v 0 | exact ev_v 1 | exact ev_v 2 | exact ev_v 3 | exact ev_v 4 | exact ev_v 5 | exact ev_v 6 | exact ev_v 7 | exact ev_v 8 | exact ev_v 9 | exact ev_v 10 | exact ev_v 11 | exact ev_v 12 | exact ev_v 13 | exact ev_v 14 | exact ev_v 15 | exact ev_v 16)
local macro_rules | `(tactic| walk_at "side") => `(tactic| first | assumption | rfl | decide | omega | (simp only [List.length_map, List.length_append, List.length_cons, List.length_nil, List.length_singleton] at *; omega))
local macro_rules | `(tactic| walk_at "ck") => `(tactic| (constructor <;> walk_at "side"))
local macro_rules | `(tactic| walk_at "add") => `(tactic| first | exact AddK.nat _ _ | exact AddK.nat1 _ | exact AddK.one _ | exact AddK.int _ _ | (refine AddK.str ?_; walk_at "side") | (refine AddK.lstM ?_; walk_at "side") | (refine AddK.tupM ?_; walk_at "side") | (refine AddK.lst ?_; walk_at "side") | (refine AddK.tup ?_; walk_at "side"))
local macro_rules | `(tactic| walk_at "mul") => `(tactic| first | (refine MulK.nat _ _ ?_; walk_at "side") | (refine MulK.int _ _ ?_; walk_at "side") | (refine MulK.str ?_ ?_ <;> walk_at "side") | (refine MulK.lst ?_ ?_ <;> walk_at "side"))
local macro_rules | `(tactic| walk_at "eq") => `(tactic| first | exact EqK.nat _ _ | exact EqK.int _ _ | exact EqK.str _ _ | exact EqK.bool _ _ | exact EqK.nonS _ | exact EqK.strN _ | exact EqK.intS _ _ | exact EqK.strI _ _ | exact EqK.nonI _ | exact EqK.intN _ | exact EqK.nonN | (refine EqK.gen ?_ ?_ ?_ <;> walk_at "side"))
local macro_rules | `(tactic| walk_at "lt") => `(tactic| first | exact LtK.nat _ _ | exact LtK.int _ _ | exact LtK.str _ _)
local macro_rules | `(tactic| walk_at "le") => `(tactic| first | exact LeK.nat _ _ | exact LeK.int _ _)
local macro_rules | `(tactic| walk_at "len") => `(tactic| first | (refine LenK.str ?_; walk_at "side") | exact LenK.lstM _ | exact LenK.tupM _ | exact LenK.lst _ | exact LenK.tup _)
local macro_rules | `(tactic| walk_at "ix") => `(tactic| first | (refine IxK.lst ?_; first | rfl | assumption) | (refine IxK.tup ?_; first | rfl | assumption) | (refine IxK.lN ?_; first | rfl | assumption) | (refine IxK.tN ?_; first | rfl | assumption) | (refine IxK.sN ?_ ?_ <;> walk_at "side"))
local macro_rules | `(tactic| walk_at "get") => `(tactic| first | exact GetK.mk _ _ _)
local macro_rules | `(tactic| walk_at "sl") => `(tactic| first | exact SlK.tFrom _ _ | exact SlK.tTo _ _ | exact SlK.lFrom _ _ | exact SlK.lTo _ _ | (refine SlK.sFrom _ _ ?_; walk_at "side") | (refine SlK.sTo _ _ ?_; walk_at "side") | (refine SlK.sMid _ _ _ ?_; walk_at "side") | exact SlK.tup _ _ _ | exact SlK.lst _ _ _ | (refine SlK.str ?_; walk_at "side"))
local macro_rules | `(tactic| walk_at "lit") => `(tactic| first | exact ev_strE (y := sL []) (by decide +kernel))
local macro_rules | `(tactic| walk_at "op") => `(tactic| (show OpI _ _ _ _ _ _ _; first | exact op_none | (refine' op_some ?_; (any_goals (walk_at "x")); done)))
local macro_rules | `(tactic| walk_at "blk") => `(tactic| exact blkOk_by (by kernel_rfl))
local macro_rules | `(tactic| walk_at "il") => `(tactic| first
  | (refine' il_tup ?_; (any_goals (walk_at "x")); done)
  | (refine' il_list ?_; (any_goals (walk_at "x")); done)
  | (refine' il_str ?_; (any_goals (walk_at "x")); done))
local macro_rules | `(tactic| walk_at "xs") => `(tactic| (show AV _ _ _ _ _ _ _; first | exact a_nil | (refine' a_cons ?_ ?_; (any_goals (walk_at "x")); (any_goals (walk_at "xs")); done)))
local macro_rules | `(tactic| walk_at "u") => `(tactic| (refine' x_call (by assumption) ?_ ?_ (by assumption); (any_goals (walk_at "xs")); (any_goals (walk_at "ck")); done))
local macro_rules | `(tactic| walk_at "x") => `(tactic| first
  | (show EV _ _ (Expr.Name _ _) _ _ _ _; walk_at "v")
  | (show EV _ _ (Expr.Constant _ _ _) _ _ _ _; first | exact ev_int | exact ev_bl | exact ev_non | walk_at "lit")
  | (show EV _ _ (Expr.BinOp _ Operator.Add _ _) _ _ _ _; refine' x_add ?_ ?_ ?_; (any_goals (walk_at "x")); (any_goals (walk_at "add")); done)
  | (show EV _ _ (Expr.BinOp _ Operator.Sub _ _) _ _ _ _; refine' x_sub ?_ ?_; (any_goals (walk_at "x")); done)
  | (show EV _ _ (Expr.BinOp _ Operator.Mult _ _) _ _ _ _; refine' x_mul ?_ ?_ ?_; (any_goals (walk_at "x")); (any_goals (walk_at "mul")); done)
  | (show EV _ _ (Expr.Call (Expr.Attribute _ "get" _) _ _ _) _ _ _ _; refine' x_get ?_ ?_ ?_ ?_ (by assumption); (any_goals (walk_at "x")); (any_goals (walk_at "get")); done)
  | (show EV _ _ (Expr.Call (Expr.Name "len" _) _ _ _) _ _ _ _; refine' x_len ?_ ?_ (by assumption); (any_goals (walk_at "x")); (any_goals (walk_at "len")); done)
  | (show EV _ _ (Expr.Call (Expr.Name _ _) _ _ _) _ _ _ _; walk_at "u")
  | (show EV _ _ (Expr.Subscript _ (Expr.Slice _ _ _ _) _) _ _ _ _; refine' x_sl ?_ ?_ ?_ ?_; (any_goals (walk_at "x")); (any_goals (walk_at "op")); (any_goals (walk_at "sl")); done)
  | (show EV _ _ (Expr.Subscript _ _ _) _ _ _ _; refine' x_ix ?_ ?_ ?_; (any_goals (walk_at "x")); (any_goals (walk_at "ix")); done)
  | (show EV _ _ (Expr.Tuple _ _ _) _ _ _ _; refine' x_tup ?_; (any_goals (walk_at "xs")); done)
  | (show EV _ _ (Expr.List _ _) _ _ _ _; refine' x_lst ?_; (any_goals (walk_at "xs")); done)
  | (show EV _ _ (Expr.Compare _ [CmpOp.Eq] _ _) _ _ _ _; refine' x_eq ?_ ?_ ?_ (by assumption); (any_goals (walk_at "x")); (any_goals (walk_at "eq")); done)
  | (show EV _ _ (Expr.Compare _ [CmpOp.NotEq] _ _) _ _ _ _; refine' x_ne ?_ ?_ ?_ (by assumption); (any_goals (walk_at "x")); (any_goals (walk_at "eq")); done)
  | (show EV _ _ (Expr.Compare _ [CmpOp.Lt] _ _) _ _ _ _; refine' x_lt ?_ ?_ ?_; (any_goals (walk_at "x")); (any_goals (walk_at "lt")); done)
  | (show EV _ _ (Expr.Compare _ [CmpOp.Gt] _ _) _ _ _ _; refine' x_gt ?_ ?_ ?_; (any_goals (walk_at "x")); (any_goals (walk_at "le")); done)
  | (show EV _ _ (Expr.Compare _ [CmpOp.LtE] _ _) _ _ _ _; refine' x_le ?_ ?_ ?_; (any_goals (walk_at "x")); (any_goals (walk_at "le")); done)
  | (show EV _ _ (Expr.UnaryOp _ _ _) _ _ _ _; refine' ev_not ?_; (any_goals (walk_at "x")); done))
local macro_rules | `(tactic| walk_at "t") => `(tactic| first
  | (show TV _ _ (Expr.Compare _ [CmpOp.Eq] _ _) _ _ _ _; refine' t_eq ?_ ?_ ?_ (by assumption); (any_goals (walk_at "x")); (any_goals (walk_at "eq")); done)
  | (show TV _ _ (Expr.Compare _ [CmpOp.NotEq] _ _) _ _ _ _; refine' t_ne ?_ ?_ ?_ (by assumption); (any_goals (walk_at "x")); (any_goals (walk_at "eq")); done)
  | (show TV _ _ (Expr.Compare _ [CmpOp.Lt] _ _) _ _ _ _; refine' t_lt ?_ ?_ ?_; (any_goals (walk_at "x")); (any_goals (walk_at "lt")); done)
  | (show TV _ _ (Expr.Compare _ [CmpOp.Gt] _ _) _ _ _ _; refine' t_gt ?_ ?_ ?_; (any_goals (walk_at "x")); (any_goals (walk_at "le")); done)
  | (show TV _ _ (Expr.Compare _ [CmpOp.LtE] _ _) _ _ _ _; refine' t_le ?_ ?_ ?_; (any_goals (walk_at "x")); (any_goals (walk_at "le")); done)
  | (show TV _ _ (Expr.Compare _ [CmpOp.Is] _ _) _ _ _ _; refine' t_isN ?_; (any_goals (walk_at "x")); done)
  | (show TV _ _ (Expr.Compare _ [CmpOp.IsNot] _ _) _ _ _ _; refine' t_notN ?_; (any_goals (walk_at "x")); done)
  | (show TV _ _ (Expr.UnaryOp UnaryOp.Not _ _) _ _ _ _; refine' tv_not ?_; (any_goals (walk_at "t")); done)
  | (show TV _ _ _ _ _ _ _; refine' tv_e ?_; (any_goals (walk_at "x")); done))
theorem flatMap_ge {T : Lay} {t : Tx} : (wL T t).length = (t.flatMap (w1 T)).length := rfl
/-! ### tables -/
def tab (Ls : List Lay) : Lay := (res Ls).filter fun q => !decide (q.2 = [q.1])
theorem alike_pair (a b : Nat × Tx) : PySem.W.alike (pairD a) (pairD b) = true := rfl
theorem lt_pair {a b : Nat × Tx} (h : a.1 < b.1) : PySem.W.dataLt (pairD a) (pairD b) = true := by
  unfold pairD
  rw [PySem.W.dataLt_tuple]
  rw [PySem.W.dataLt_all_no rfl]
  · rw [PySem.W.dataLt_str]
    exact decide_eq_true (sgl_lt.mpr h)
  · show (sL [a.1] == sL [b.1]) = false
    exact beq_eq_false_iff_ne.mpr fun e => by have := sL_inj e; simp at this; omega
theorem dep_pair (a : Nat × Tx) : (pairD a).depth ≤ 50 := by simp [pairD, PyData.depth, PyData.depthAll]
theorem nods_lay (L : Lay) : nods (L.map pairD) = true := by
  induction L with
  | nil => rfl
  | cons q L ih => show (nod (pairD q) && nods (L.map pairD)) = true; rw [ih]; rfl
theorem sort_lay {L : Lay} (h : (L.map (·.1)).Pairwise (· < ·)) : (L.map pairD).mergeSort leD = L.map pairD := by
  refine sorted_uniq (List.Perm.refl _) ?_
  rw [List.pairwise_map] at h ⊢
  exact h.imp fun h => lt_pair h
theorem al_lay (L : Lay) : PySem.W.AllAlike (L.map pairD) := fun d hd d' hd' => by
  obtain ⟨a, _, rfl⟩ := List.mem_map.mp hd
  obtain ⟨b, _, rfl⟩ := List.mem_map.mp hd'
  rfl
theorem so_lay (L : Lay) : PySem.W.Sortable (L.map pairD) := .inl fun d hd => by
  obtain ⟨a, _, rfl⟩ := List.mem_map.mp hd
  exact ⟨_, _, rfl⟩
theorem res_ord (Ls : List Lay) : ((res Ls).map (·.1)).Pairwise (· < ·) := by rw [dsg_res]; exact dsg_sorted _
theorem tab_ord (Ls : List Lay) : ((tab Ls).map (·.1)).Pairwise (· < ·) := by
  have h := res_ord Ls
  rw [List.pairwise_map] at h ⊢
  exact h.filter _
theorem res_len {Ls : List Lay} (h : SOk Ls) : (res Ls).length ≤ 8 * Ls.length := by
  have h1 := sgs_len h
  have h2 := dsg_len (sgs Ls)
  unfold res
  rw [List.length_map]
  omega
theorem sgs_sgn {Ls : List Lay} (h : SOk Ls) : ∀ c ∈ sgs Ls, c ∈ SGN := fun c hc => by
  obtain ⟨L, hL, hc⟩ := List.mem_flatMap.mp hc
  obtain ⟨q, hq, rfl⟩ := List.mem_map.mp hc
  exact ((h L hL).ok q hq).1
/-- pairs that can be compared -/
def GOk (q : Nat × Tx) : Prop := q.1 ∈ SGN ∧ TOk q.2 ∧ q.2.length ≤ 50000
theorem res_gok {Ls : List Lay} (h : SOk Ls) (hl : Ls.length ≤ 6) : ∀ q ∈ res Ls, GOk q := fun q hq => by
  unfold res at hq
  obtain ⟨c, hc, rfl⟩ := List.mem_map.mp hq
  have hc := sgs_sgn h c (dsg_mem.mp hc)
  refine ⟨hc, wS_ok h fun x hx => by rw [List.mem_singleton.mp hx]; exact hc, ?_⟩
  have h1 := (wS_len h [c]).2
  have h3 := pow6 hl
  simp only [List.length_cons, List.length_nil] at h1
  show (wS Ls [c]).length ≤ _
  omega
theorem tab_gok {Ls : List Lay} (h : SOk Ls) (hl : Ls.length ≤ 6) : ∀ q ∈ tab Ls, GOk q := fun q hq => res_gok h hl q (List.mem_filter.mp hq).1
theorem tab_len {Ls : List Lay} (h : SOk Ls) : (tab Ls).length ≤ 8 * Ls.length := Nat.le_trans (List.length_filter_le _ _) (res_len h)
theorem okD_gpair {q : Nat × Tx} (h : GOk q) : okD 1 50000 (pairD q) := by
  refine okD_mkT (by simp) fun d hd => ?_
  simp only [List.mem_cons, List.not_mem_nil, or_false] at hd
  rcases hd with rfl | rfl
  · exact okD_str.mpr ⟨by simp, fun c hc => by rw [List.mem_singleton.mp hc]; exact sgn_ok h.1⟩
  · exact okD_str.mpr ⟨h.2.2, fun c hc => sgn_ok (h.2.1 c hc)⟩
theorem okD_glay {L : Lay} (h : ∀ q ∈ L, GOk q) (hl : L.length ≤ 50000) : okD 2 50000 (layD L) := by
  refine okD_mkT (by rw [List.length_map]; exact hl) fun d hd => ?_
  obtain ⟨q, hq, rfl⟩ := List.mem_map.mp hd
  exact okD_gpair (h q hq)
theorem pl_glay {L : Lay} (h : ∀ q ∈ L, GOk q) (hl : L.length ≤ 50000) : pl (layD L) = true := ok_pl (okD_glay h hl) (by decide)
theorem pl_tab {Ls : List Lay} (h : SOk Ls) (hl : Ls.length ≤ 6) : pl (layD (tab Ls)) = true := pl_glay (tab_gok h hl) (by have := tab_len h; omega)
theorem eqv_pair (a b : Nat × Tx) : PyData.eqv (pairD a) (pairD b) = decide (a = b) := by
  obtain ⟨a1, a2⟩ := a
  obtain ⟨b1, b2⟩ := b
  simp only [pairD, PyData.eqv, PyData.eqvAll, Bool.and_true]
  have h1 : ((sL [a1] == sL [b1]) : Bool) = decide (a1 = b1) := by
    rw [Bool.eq_iff_iff]
    simp
  have h2 : ((sL a2 == sL b2) : Bool) = decide (a2 = b2) := by
    rw [Bool.eq_iff_iff]
    simp
  rw [h1, h2]
  by_cases x : a1 = b1 <;> by_cases y : a2 = b2 <;> simp [x, y]
theorem eqv_lay : ∀ (A B : Lay), PyData.eqv (layD A) (layD B) = decide (A = B) := by
  have key : ∀ A B : Lay, PyData.eqvAll (A.map pairD) (B.map pairD) = decide (A = B) := by
    intro A
    induction A with
    | nil => intro B; cases B <;> simp [PyData.eqvAll]
    | cons a A ih =>
      intro B
      cases B with
      | nil => simp [PyData.eqvAll]
      | cons b B =>
        rw [List.map_cons, List.map_cons]
        simp only [PyData.eqvAll]
        rw [ih, eqv_pair]
        by_cases x : a = b <;> by_cases y : A = B <;> simp [x, y]
  intro A B
  unfold layD
  simp only [PyData.eqv]
  exact key A B
end Fc
end
section
namespace Fc
open PySem PySem.Spec PyProof.Rows L2 Dl
open Evl (Ex)
local macro_rules | `(tactic| walk_at "v") => `(tactic| first | exact ev_v 0 | exact ev_v 1 | exact ev_v 2 | exact ev_v 3 | exact ev_v 4 | exact ev_v 5 | exact ev_v 6 | exact ev_v 7 | exact ev_v 8 | exact ev_v 9 | exact ev_v 10 | exact ev_v 11 | exact ev_v 12 | exact ev_v 13 | exact ev_v 14 | exact ev_v 15 | exact ev_v 16)
local macro_rules | `(tactic| walk_at "side") => `(tactic| first | assumption | rfl | decide | omega | (simp only [List.length_map, List.length_append, List.length_cons, List.length_nil, List.length_singleton] at *; omega))
local macro_rules | `(tactic| walk_at "ck") => `(tactic| (constructor <;> walk_at "side"))
local macro_rules | `(tactic| walk_at "add") => `(tactic| first | exact AddK.nat _ _ | exact AddK.nat1 _ | exact AddK.one _ | exact AddK.int _ _ | (refine AddK.str ?_; walk_at "side") | (refine AddK.lstM ?_; walk_at "side") | (refine AddK.tupM ?_; walk_at "side") | (refine AddK.lst ?_; walk_at "side") | (refine AddK.tup ?_; walk_at "side"))
local macro_rules | `(tactic| walk_at "mul") => `(tactic| first | (refine MulK.nat _ _ ?_; walk_at "side") | (refine MulK.int _ _ ?_; walk_at "side") | (refine MulK.str ?_ ?_ <;> walk_at "side") | (refine MulK.lst ?_ ?_ <;> walk_at "side"))
local macro_rules | `(tactic| walk_at "eq") => `(tactic| first | exact EqK.nat _ _ | exact EqK.int _ _ | exact EqK.str _ _ | exact EqK.bool _ _ | exact EqK.nonS _ | exact EqK.strN _ | exact EqK.intS _ _ | exact EqK.strI _ _ | exact EqK.nonI _ | exact EqK.intN _ | exact EqK.nonN | (refine EqK.gen ?_ ?_ ?_ <;> walk_at "side"))
local macro_rules | `(tactic| walk_at "lt") => `(tactic| first | exact LtK.nat _ _ | exact LtK.int _ _ | exact LtK.str _ _)
local macro_rules | `(tactic| walk_at "le") => `(tactic| first | exact LeK.nat _ _ | exact LeK.int _ _)
local macro_rules | `(tactic| walk_at "len") => `(tactic| first | (refine LenK.str ?_; walk_at "side") | exact LenK.lstM _ | exact LenK.tupM _ | exact LenK.lst _ | exact LenK.tup _)
local macro_rules | `(tactic| walk_at "ix") => `(tactic| first | (refine IxK.lst ?_; first | rfl | assumption) | (refine IxK.tup ?_; first | rfl | assumption) | (refine IxK.lN ?_; first | rfl | assumption) | (refine IxK.tN ?_; first | rfl | assumption) | (refine IxK.sN ?_ ?_ <;> walk_at "side"))
local macro_rules | `(tactic| walk_at "get") => `(tactic| first | exact GetK.mk _ _ _)
local macro_rules | `(tactic| walk_at "sl") => `(tactic| first | exact SlK.tFrom _ _ | exact SlK.tTo _ _ | exact SlK.lFrom _ _ | exact SlK.lTo _ _ | (refine SlK.sFrom _ _ ?_; walk_at "side") | (refine SlK.sTo _ _ ?_; walk_at "side") | (refine SlK.sMid _ _ _ ?_; walk_at "side") | exact SlK.tup _ _ _ | exact SlK.lst _ _ _ | (refine SlK.str ?_; walk_at "side"))
local macro_rules | `(tactic| walk_at "lit") => `(tactic| first | exact ev_strE (y := sL []) (by decide +kernel))
local macro_rules | `(tactic| walk_at "op") => `(tactic| (show OpI _ _ _ _ _ _ _; first | exact op_none | (refine' op_some ?_; (any_goals (walk_at "x")); done)))
local macro_rules | `(tactic| walk_at "blk") => `(tactic| exact blkOk_by (by kernel_rfl))
local macro_rules | `(tactic| walk_at "il") => `(tactic| first
  | (refine' il_tup ?_; (any_goals (walk_at "x")); done)
  | (refine' il_list ?_; (any_goals (walk_at "x")); done)
  | (refine' il_str ?_; (any_goals (walk_at "x")); done))
local macro_rules | `(tactic| walk_at "xs") => `(tactic| (show AV _ _ _ _ _ _ _; first | exact a_nil | (refine' a_cons ?_ ?_; (any_goals (walk_at "x")); (any_goals (walk_at "xs")); done)))
local macro_rules | `(tactic| walk_at "u") => `(tactic| (refine' x_call (by assumption) ?_ ?_ (by assumption); (any_goals (walk_at "xs")); (any_goals (walk_at "ck")); done))
local macro_rules | `(tactic| walk_at "x") => `(tactic| first
  | (show EV _ _ (Expr.Name _ _) _ _ _ _; walk_at "v")
  | (show EV _ _ (Expr.Constant _ _ _) _ _ _ _; first | exact ev_int | exact ev_bl | exact ev_non | walk_at "lit")
  | (show EV _ _ (Expr.BinOp _ Operator.Add _ _) _ _ _ _; refine' x_add ?_ ?_ ?_; (any_goals (walk_at "x")); (any_goals (walk_at "add")); done)
  | (show EV _ _ (Expr.BinOp _ Operator.Sub _ _) _ _ _ _; refine' x_sub ?_ ?_; (any_goals (walk_at "x")); done)
  | (show EV _ _ (Expr.BinOp _ Operator.Mult _ _) _ _ _ _; refine' x_mul ?_ ?_ ?_; (any_goals (walk_at "x")); (any_goals (walk_at "mul")); done)
  | (show EV _ _ (Expr.Call (Expr.Attribute _ "get" _) _ _ _) _ _ _ _; refine' x_get ?_ ?_ ?_ ?_ (by assumption); (any_goals (walk_at "x")); (any_goals (walk_at "get")); done)
  | (show EV _ _ (Expr.Call (Expr.Name "len" _) _ _ _) _ _ _ _; refine' x_len ?_ ?_ (by assumption); (any_goals (walk_at "x")); (any_goals (walk_at "len")); done)
  | (show EV _ _ (Expr.Call (Expr.Name _ _) _ _ _) _ _ _ _; walk_at "u")
  | (show EV _ _ (Expr.Subscript _ (Expr.Slice _ _ _ _) _) _ _ _ _; refine' x_sl ?_ ?_ ?_ ?_; (any_goals (walk_at "x")); (any_goals (walk_at "op")); (any_goals (walk_at "sl")); done)
  | (show EV _ _ (Expr.Subscript _ _ _) _ _ _ _; refine' x_ix ?_ ?_ ?_; (any_goals (walk_at "x")); (any_goals (walk_at "ix")); done)
  | (show EV _ _ (Expr.Tuple _ _ _) _ _ _ _; refine' x_tup ?_; (any_goals (walk_at "xs")); done)
  | (show EV _ _ (Expr.List _ _) _ _ _ _; refine' x_lst ?_; (any_goals (walk_at "xs")); done)
  | (show EV _ _ (Expr.Compare _ [CmpOp.Eq] _ _) _ _ _ _; refine' x_eq ?_ ?_ ?_ (by assumption); (any_goals (walk_at "x")); (any_goals (walk_at "eq")); done)
  | (show EV _ _ (Expr.Compare _ [CmpOp.NotEq] _ _) _ _ _ _; refine' x_ne ?_ ?_ ?_ (by assumption); (any_goals (walk_at "x")); (any_goals (walk_at "eq")); done)
  | (show EV _ _ (Expr.Compare _ [CmpOp.Lt] _ _) _ _ _ _; refine' x_lt ?_ ?_ ?_; (any_goals (walk_at "x")); (any_goals (walk_at "lt")); done)
  | (show EV _ _ (Expr.Compare _ [CmpOp.Gt] _ _) _ _ _ _; refine' x_gt ?_ ?_ ?_; (any_goals (walk_at "x")); (any_goals (walk_at "le")); done)
  | (show EV _ _ (Expr.Compare _ [CmpOp.LtE] _ _) _ _ _ _; refine' x_le ?_ ?_ ?_; (any_goals (walk_at "x")); (any_goals (walk_at "le")); done)
  | (show EV _ _ (Expr.UnaryOp _ _ _) _ _ _ _; refine' ev_not ?_; (any_goals (walk_at "x")); done))
local macro_rules | `(tactic| walk_at "t") => `(tactic| first
  | (show TV _ _ (Expr.Compare _ [CmpOp.Eq] _ _) _ _ _ _; refine' t_eq ?_ ?_ ?_ (by assumption); (any_goals (walk_at "x")); (any_goals (walk_at "eq")); done)
  | (show TV _ _ (Expr.Compare _ [CmpOp.NotEq] _ _) _ _ _ _; refine' t_ne ?_ ?_ ?_ (by assumption); (any_goals (walk_at "x")); (any_goals (walk_at "eq")); done)
  | (show TV _ _ (Expr.Compare _ [CmpOp.Lt] _ _) _ _ _ _; refine' t_lt ?_ ?_ ?_; (any_goals (walk_at "x")); (any_goals (walk_at "lt")); done)
  | (show TV _ _ (Expr.Compare _ [CmpOp.Gt] _ _) _ _ _ _; refine' t_gt ?_ ?_ ?_; (any_goals (walk_at "x")); (any_goals (walk_at "le")); done)
  | (show TV _ _ (Expr.Compare _ [CmpOp.LtE] _ _) _ _ _ _; refine' t_le ?_ ?_ ?_; (any_goals (walk_at "x")); (any_goals (walk_at "le")); done)
  | (show TV _ _ (Expr.Compare _ [CmpOp.Is] _ _) _ _ _ _; refine' t_isN ?_; (any_goals (walk_at "x")); done)
  | (show TV _ _ (Expr.Compare _ [CmpOp.IsNot] _ _) _ _ _ _; refine' t_notN ?_; (any_goals (walk_at "x")); done)
  | (show TV _ _ (Expr.UnaryOp UnaryOp.Not _ _) _ _ _ _; refine' tv_not ?_; (any_goals (walk_at "t")); done)
  | (show TV _ _ _ _ _ _ _; refine' tv_e ?_; (any_goals (walk_at "x")); done))
/-! ### steps -/
def stp : List Lay → Tx → List Tx
  | [], _ => []
  | L :: Ls, t => wL L t :: stp Ls (wL L t)
theorem stp_len : ∀ (Ls : List Lay) (t : Tx), (stp Ls t).length = Ls.length
  | [], _ => rfl
  | L :: Ls, t => congrArg (· + 1) (stp_len Ls _)
theorem stp_app : ∀ (Ls Ms : List Lay) (t : Tx), stp (Ls ++ Ms) t = stp Ls t ++ stp Ms (wS Ls t)
  | [], _, _ => rfl
  | L :: Ls, Ms, t => congrArg (wL L t :: ·) (stp_app Ls Ms _)
end Fc
end
section
namespace Fc
open PySem PySem.Spec PyProof.Rows L2 Dl
open Evl (Ex)
/-! ### runs -/
theorem rn_add (Ls : List Lay) (m : Nat) (t : Tx) : ∀ n, rn Ls (m + n) t = rn Ls n (rn Ls m t)
  | 0 => rfl
  | n + 1 => congrArg (wS Ls) (rn_add Ls m t n)
theorem rn_dbl (Ls : List Lay) (t : Tx) : ∀ n, rn (Ls ++ Ls) n t = rn Ls (2 * n) t
  | 0 => rfl
  | n + 1 => by
    show wS (Ls ++ Ls) (rn (Ls ++ Ls) n t) = _
    rw [wS_stk, rn_dbl Ls t n]
    rfl
theorem rn_one (Ls : List Lay) (t : Tx) : rn Ls 1 t = wS Ls t := rfl
theorem wS_emp (Ls : List Lay) (t : Tx) : wS (Ls ++ [[]]) t = wS Ls t ∧ wS ([[]] ++ Ls) t = wS Ls t := by
  have e : ∀ t : Tx, wS [[]] t = t := fun t => by
    show t.flatMap (w1 []) = t
    have : ∀ c, w1 [] c = [c] := fun _ => rfl
    rw [show w1 [] = fun c => [c] from funext this]
    simp
  rw [wS_stk, wS_stk, e, e]
  exact ⟨rfl, rfl⟩
/-! ### tables -/
def tabU (Ls : List Lay) (U : List Nat) : Lay := (U.filter fun c => !decide (wS Ls [c] = [c])).map fun c => (c, wS Ls [c])
theorem tab_fst (Ls : List Lay) (U : List Nat) : tabU Ls U = (((U.filter fun c => !decide (wS Ls [c] = [c]))).map fun c => (c, wS Ls [c])) := rfl
/-- the table over any sorted signs that hold all of the stack -/
theorem tab_on {Ls : List Lay} {U : List Nat} (hU : U.Pairwise (· < ·)) (h : ∀ c ∈ sgs Ls, c ∈ U) : tab Ls = tabU Ls U := by
  have e1 : tab Ls = tabU Ls (dsg (sgs Ls)) := by
    unfold tab res tabU
    rw [List.filter_map]
    rfl
  rw [e1]
  unfold tabU
  congr 1
  refine lt_uniqN ((dsg_sorted _).filter _) (hU.filter _) fun z => ?_
  rw [List.mem_filter, List.mem_filter, dsg_mem]
  constructor
  · exact fun ⟨a, b⟩ => ⟨h z a, b⟩
  · refine fun ⟨_, b⟩ => ⟨?_, b⟩
    by_cases hz : z ∈ sgs Ls
    · exact hz
    · rw [wS_no hz] at b
      simp at b
theorem w1_tab (Ls : List Lay) (c : Nat) : w1 (tab Ls) c = wS Ls [c] := by
  rw [tab_on (dsg_sorted (sgs Ls)) fun c h => dsg_mem.mpr h]
  unfold tabU
  by_cases h : c ∈ ((dsg (sgs Ls)).filter fun c => !decide (wS Ls [c] = [c]))
  · unfold w1
    rw [lk_map h]
    rfl
  · have e := w1_none (L := tabU Ls (dsg (sgs Ls))) (c := c) (by
      unfold tabU
      rw [List.map_map]
      have : ((fun q : Nat × Tx => q.1) ∘ fun c => (c, wS Ls [c])) = id := rfl
      rw [this, List.map_id]
      exact h)
    unfold tabU at e
    rw [e]
    by_cases hs : c ∈ sgs Ls
    · have : wS Ls [c] = [c] := by
        by_cases hh : wS Ls [c] = [c]
        · exact hh
        · exact absurd (List.mem_filter.mpr ⟨dsg_mem.mpr hs, by simp [hh]⟩) h
      exact this.symm
    · exact (wS_no hs).symm
theorem tab_eq {Ls Ms : List Lay} : tab Ls = tab Ms ↔ ∀ t, wS Ls t = wS Ms t := by
  constructor
  · intro h t
    rw [wS_flat Ls, wS_flat Ms]
    congr 1
    funext c
    rw [← w1_tab, ← w1_tab, h]
  · intro h
    rw [tab_on (dsg_sorted (sgs Ls ++ sgs Ms)) fun c hc => dsg_mem.mpr (List.mem_append_left _ hc), tab_on (U := dsg (sgs Ls ++ sgs Ms)) (dsg_sorted _) fun c hc => dsg_mem.mpr (List.mem_append_right _ hc)]
    unfold tabU
    simp only [h]
theorem tabU_mem {Ls : List Lay} {U : List Nat} {q : Nat × Tx} (h : q ∈ tabU Ls U) : q.1 ∈ U := by
  obtain ⟨c, hc, rfl⟩ := List.mem_map.mp h
  exact (List.mem_filter.mp hc).1
end Fc
end
section
namespace Fc
open PySem PySem.Spec PyProof.Rows L2 Dl
open Evl (Ex)
/-! ### what the laws draw -/
theorem pools_sgn : ∀ p ∈ pools, ∀ c ∈ p, c ∈ SGN := by decide +kernel
theorem zt_sgn : ∀ c ∈ ([122, 126] : Tx), c ∈ SGN := by decide +kernel
theorem islay_ok {po : Tx} {most : Nat} {L : Lay} (hp : ∀ c ∈ po, c ∈ SGN) (hm : most ≤ 6) (h : IsLay po most L) : LOk L :=
  ⟨h.len, fun q hq => by
    obtain ⟨h1, h2, h3, h4⟩ := h.ok q hq
    exact ⟨hp _ h1, h2, by omega, fun c hc => hp c (h4 c hc)⟩, h.ord⟩
theorem islay_sgs {po : Tx} {most : Nat} {Ls : List Lay} (h : ∀ L ∈ Ls, IsLay po most L) : ∀ c ∈ sgs Ls, c ∈ po := fun c hc => by
  obtain ⟨L, hL, hc⟩ := List.mem_flatMap.mp hc
  obtain ⟨q, hq, rfl⟩ := List.mem_map.mp hc
  exact ((h L hL).ok q hq).1
theorem sgs_app (Ls Ms : List Lay) : sgs (Ls ++ Ms) = sgs Ls ++ sgs Ms := by unfold sgs; rw [List.flatMap_append]
theorem sok_app {Ls Ms : List Lay} (h : SOk Ls) (g : SOk Ms) : SOk (Ls ++ Ms) := fun L hL => (List.mem_append.mp hL).elim (h L) (g L)
theorem sok_nil : SOk [] := fun _ h => nomatch h
theorem lok_nil : LOk [] := ⟨by simp, fun _ h => (nomatch h), .nil⟩
theorem sok_one {L : Lay} (h : LOk L) : SOk [L] := fun M hM => by rw [List.mem_singleton.mp hM]; exact h
/-! ### tests that never hold -/
section
variable {X : Cx} {R : Addr → Prop} {a b : Expr} {ss : List Kd} {O O1 O2 : Store} {d : PyData} {pos p : Pos} {body rest : List Stmt} {D : DE} {n : Nat}
/-- if a != b: return ..; the two are alike -/
theorem sj_same (ha : EV X R a ss O (.dat d) O1) (hb : EV X R b ss O1 (.dat d) O2) (h : EqK d d true) (hr : Room n X.A) (g : SJ X R rest ss O2 D) : SJ X R (.If (.Compare a [.NotEq] [b] p) body [] pos :: rest) ss O D :=
  sj_ifR (t_ne ha hb h hr) (fun z => by cases z) (fun _ => g)
end
section
variable {X : Cx} {R : Addr → Prop} {a c : Expr} {ss : List Kd} {O O1 O2 : Store} {d d1 d2 : PyData} {pos p : Pos} {body rest : List Stmt} {D : DE} {n : Nat}
theorem ev_as (e : d1 = d2) (h : EV X R a ss O (.dat d1) O1) : EV X R a ss O (.dat d2) O1 := e ▸ h
/-- if c: .., going on in any case -/
theorem sj_ifS {b' : Bool} (Inv : List Kd → Store → Prop) (hc : TV X R c ss O b' O1) (hb : b' = true → SJ X R body ss O1 { D with nx := Inv }) (h0 : b' = false → Inv ss O1) (h : ∀ ss' O', Inv ss' O' → SJ X R rest ss' O' D) : SJ X R (.If c body [] pos :: rest) ss O D :=
  sj_if hc (fun e => (hb e).imp (fun _ _ i => h _ _ i) (fun _ _ i => i) (fun _ _ i => i) (fun _ _ i => i)) (fun e => sj_nil (h _ _ (h0 e)))
end
section
variable {X : Cx} {R : Addr → Prop} {a c : Expr} {ss : List Kd} {O O1 O2 : Store} {d d1 d2 : PyData} {pos p : Pos} {body els rest : List Stmt} {D : DE} {n : Nat}
/-- if c: .. else: .., going on in both cases -/
theorem sj_ifE {b' : Bool} (Inv : List Kd → Store → Prop) (hc : TV X R c ss O b' O1) (hb : b' = true → SJ X R body ss O1 { D with nx := Inv }) (he : b' = false → SJ X R els ss O1 { D with nx := Inv }) (h : ∀ ss' O', Inv ss' O' → SJ X R rest ss' O' D) : SJ X R (.If c body els pos :: rest) ss O D :=
  sj_if hc (fun e => (hb e).imp (fun _ _ i => h _ _ i) (fun _ _ i => i) (fun _ _ i => i) (fun _ _ i => i)) (fun e => (he e).imp (fun _ _ i => h _ _ i) (fun _ _ i => i) (fun _ _ i => i) (fun _ _ i => i))
end
/-- x = [elt for ..], as plain data -/
theorem sj_lcD {X : Cx} {R : Addr → Prop} {ss : List Kd} {O O1 : Store} {pos : Pos} {rest : List Stmt} {D : DE} (i : Nat) {x : Str} {px spos : Pos} {elt tg iter : Expr} {ifs : List Expr} {scope : Scope} {ds : List PyData} (h : LJ X R elt tg iter ifs scope ss O fun p O' => O' = (p, .ol ds) :: O1) (g : SJ X R rest (ss.set i (.dat (.list ds))) O1 D) (hN : X.N.Nodup)
    (hl : i < ss.length := by simp) (hc : X.calm = true := by rfl) (hi : X.N[i]? = some x := by rfl) (hx : X.env.scope.names.lookup x = some .local := by rfl)
    (hsw : swapsWith (.ListComp elt [⟨tg, iter, ifs, 0⟩] scope pos) (some (.Name x px)) spos.line X.env = pure true := by rfl) (hs : ∀ x, foldedSetIterable iter X.env x = pure x := by intro _; rfl) : SJ X R (.Assign [.Name x px] (.ListComp elt [⟨tg, iter, ifs, 0⟩] scope pos) spos :: rest) ss O D :=
  sj_lc i h (fun p O' e => by
    subst e
    refine sj_frzL i 0 (by rw [List.getElem?_set_self hl]) rfl ?_
    rw [List.set_set]
    exact g) hN hc hi hx hsw hs
/-! ### data that == may look at -/
theorem okD_tx {t : Tx} {n : Nat} (h : TOk t) (hl : t.length ≤ n) (k : Nat) : okD k n (dS t) := okD_str.mpr ⟨hl, fun c hc => sgn_ok (h c hc)⟩
theorem stp_ok : ∀ {Ls : List Lay} (_ : SOk Ls) {t : Tx} (_ : TOk t), ∀ u ∈ stp Ls t, TOk u ∧ u.length ≤ (wS Ls t).length
  | [], _, _, _, u, hu => nomatch hu
  | L :: Ls, h, t, ht, u, hu => by
    have hL := h L List.mem_cons_self
    have hLs : SOk Ls := fun M hM => h M (List.mem_cons_of_mem _ hM)
    have ht2 := wL_ok hL ht
    rcases List.mem_cons.mp hu with rfl | hu
    · exact ⟨ht2, (wS_len hLs _).1⟩
    · exact stp_ok hLs ht2 u hu
theorem pl_txs {us : List Tx} {n : Nat} (hl : us.length ≤ n) (h : ∀ u ∈ us, TOk u ∧ u.length ≤ n) : pl (.list (us.map dS)) = true :=
  ok_pl (k := 1) (n := n) (okD_mkL (by rw [List.length_map]; exact hl) fun d hd => by
    obtain ⟨u, hu, rfl⟩ := List.mem_map.mp hd
    exact okD_tx (h u hu).1 (h u hu).2 0) (by decide)
theorem pl_prs {L : Lay} {n : Nat} (hl : L.length ≤ n) (h2 : 2 ≤ n) (h : ∀ q ∈ L, q.1 ∈ SGN ∧ TOk q.2 ∧ q.2.length ≤ n) : pl (.list (L.map pairD)) = true :=
  ok_pl (k := 2) (n := n) (okD_mkL (by rw [List.length_map]; exact hl) fun d hd => by
    obtain ⟨q, hq, rfl⟩ := List.mem_map.mp hd
    obtain ⟨g1, g2, g3⟩ := h q hq
    refine okD_mkT (by simpa using h2) fun d hd => ?_
    rcases List.mem_cons.mp hd with rfl | hd
    · exact okD_str.mpr ⟨by simp; omega, fun c hc => by rw [List.mem_singleton.mp hc]; exact sgn_ok g1⟩
    · rw [List.mem_singleton.mp hd]
      exact okD_tx g2 g3 0) (by decide)
theorem tab_ndp (Ls : List Lay) : ((tab Ls).map (·.1)).Nodup := by
  rw [tab_on (dsg_sorted (sgs Ls)) fun c h => dsg_mem.mpr h]
  unfold tabU
  rw [List.map_map]
  have : ((fun q : Nat × Tx => q.1) ∘ fun c => (c, wS Ls [c])) = id := rfl
  rw [this, List.map_id]
  exact (dsg_nodup _).filter _
theorem eqv_lnil (l : List PyData) : PyData.eqv (.list l) (.list []) = l.isEmpty := by cases l <;> simp [PyData.eqv, PyData.eqvAll]
theorem rn_nil (t : Tx) : ∀ n, rn [] n t = t
  | 0 => rfl
  | n + 1 => rn_nil t n
end Fc
end
section
namespace Fc
open PySem PySem.Spec PyProof.Rows L2 Dl
open Evl (Ex)
section
variable {P : Program} {w : World} {K : PySem.W.Frag} {mg : Str → Option Value} {base : Heap}
/-! ### _law_cell_at -/
def tCell (K : PySem.W.Frag) : DSp := fun ks B k _ => ∃ a ns, ∃ i : Nat, ks = [.val (.ref a), .dat (.int i)] ∧ ScB K a ns B ∧ k (.dat (.int (ns.getD i 0))) B
theorem sc_cell : FnScope ["script", "k"] ["script", "k"] (defScope s_cell) := ⟨rfl, rfl, rfl, by decide +kernel, rfl, by decide +kernel, by decide +kernel⟩
theorem c_cell (D : Dfn K mg "_law_cell_at" s_cell) (b : Bn mg) : Cal P w K mg base "_law_cell_at" 1 ["script", "k"] (tCell K) := by
  refine cal_of D sc_cell (fun _ _ _ _ _ _ us hl => match us, hl with | [_, _], _ => rfl) (fun ks B k R ⟨a, ns, i, h, _⟩ => by rw [h]; rfl) ?_
  rintro f cdv A outer s H E ks B k R hr ⟨a, ns, i, rfl, hB, h⟩
  refine sj_ifR (tv_lt (ev_v 1) (ev_lenR (ev_v 0) hB b.len)) (fun h1 => ?_) (fun h1 => ?_)
  · have h1 : i < ns.length := by have := of_decide_eq_true h1; omega
    have e : atI ns i = some (ns.getD i 0) := by
      rw [atI_nat (j := i) (v := ns[i]) (List.getElem?_eq_getElem h1)]
      simp [List.getD_eq_getElem?_getD, h1]
    exact sj_ret (ev_ixR (ev_v 0) (ev_v 1) hB e) (finA h)
  · have h1 : ¬ i < ns.length := by have := of_decide_eq_false h1; omega
    refine sj_ret ev_int ?_
    have e : ns.getD i 0 = 0 := by simp [List.getD_eq_getElem?_getD, List.getElem?_eq_none (by omega : ns.length ≤ i)]
    rw [e] at h
    exact finA h
/-! ### _law_draws -/
def tDraws : DSp := fun ks B k _ => ∃ c : Int, ∃ m s : Nat, ks = [.dat (.int c), .dat (.int m), .dat (.int s)] ∧ B = [] ∧ 0 < s ∧ s < 100000 ∧ m < 100000 ∧ ∀ ds : List Nat, ds.length = m → (∀ d ∈ ds, d < s) → k (.dat (.list (dN ds))) []
abbrev nDraws : List Str := ["cell", "many", "size", "found", "rest", "stirred", "k"]
theorem sc_draws : FnScope nDraws ["cell", "many", "size"] (defScope s_draws) := ⟨rfl, rfl, rfl, by decide +kernel, rfl, by decide +kernel, by decide +kernel⟩
theorem c_draws (D : Dfn K mg "_law_draws" s_draws) (b : Bn mg) : Cal P w K mg base "_law_draws" 1 ["cell", "many", "size"] tDraws := by
  refine cal_of D sc_draws (fun _ _ _ _ _ _ us hl => match us, hl with | [_, _, _], _ => rfl) (fun ks B k R ⟨c, m, s, h, _⟩ => by rw [h]; rfl) ?_
  rintro f cdv A outer s H E ks B k R hr ⟨c, m, sz, rfl, rfl, h0, h1, h2, h⟩
  refine sj_setN 3 (en_lst (ds := []) av_nil rfl (by simp)) (fun p => ?_) sc_draws.nd
  refine sj_set 4 (ev_mul (ev_v 0) (ev_intB (ev_ge (ev_v 0) (ev_pow ev_int ev_int ⟨by decide, by decide, by decide⟩)) b.int) (.inr (by split <;> decide))) ?_ sc_draws.nd
  refine sj_set 5 (ev_mod (ev_v 0) ev_int (by decide)) ?_ sc_draws.nd
  generalize hr0 : (c * if decide ((10 : Int) ^ (18 : Int).toNat ≤ c) = true then 1 else 0) = rest0
  have hrest : 0 ≤ rest0 := by
    rw [← hr0]
    split
    · rename_i hh
      have := of_decide_eq_true hh
      have : (0 : Int) ≤ (10 : Int) ^ (18 : Int).toNat := by decide
      omega
    · omega
  refine sj_for1 6 (fun i ss O => ∃ (rs st : Int) (ds : List Nat) (kk : Kd), ss = [.dat (.int c), .dat (.int m), .dat (.int sz), .val (.ref p), .dat (.int rs), .dat (.int st), kk] ∧ O = [(p, .ol (dN ds))] ∧ 0 ≤ st ∧ st < 2305843009213693951 ∧ 0 ≤ rs ∧ ds.length = i - 3 ∧ ∀ d ∈ ds, d < sz)
    sc_draws.nd (ij_range1 (ev_add (ev_v 1) ev_int) (by omega) (by omega) b.range) ?_ (fun _ _ _ _ => trivial) ?_ ?_
  · exact ⟨_, _, [], .und, rfl, rfl, Int.emod_nonneg _ (by decide), Int.emod_lt_of_pos _ (by decide), hrest, rfl, by simp⟩
  · rintro i ss O hi ⟨rs, st, ds, kk, rfl, rfl, s1, s2, s3, s4, s5⟩
    refine sj_set 5 (ev_mod (ev_add (ev_add (ev_add (ev_mul (ev_v 5) (ev_v 5) ?_) (ev_mul ev_int (ev_v 5) ?_)) (ev_v 6)) ev_int) ev_int (by decide)) ?_ sc_draws.nd
    · exact .inl ⟨by omega, by omega⟩
    · exact .inl ⟨by decide, by decide⟩
    refine sj_if (wv_and (tv_gt (ev_v 6) ev_int) (fun _ => wv_and1 (tv_gt (ev_v 4) ev_int)) (fun _ => rfl)).tv (fun hc => ?_) (fun hc => ?_)
    · simp only [Bool.and_eq_true, decide_eq_true_eq] at hc
      refine sj_expr (ev_append 0 (ev_v 3) (ev_mod (ev_v 4) (ev_v 2) (by omega)) rfl rfl (by rw [List.length_map]; omega)) ?_
      refine sj_set 4 (ev_fdiv (ev_v 4) (ev_v 2) ⟨by omega, by omega⟩) ?_ sc_draws.nd
      refine sj_nil (sj_nil ?_)
      have hz : (0 : Int) < sz := by omega
      refine ⟨_, _, ds ++ [(rs % (sz : Int)).toNat], _, rfl, ?_, Int.emod_nonneg _ (by decide), Int.emod_lt_of_pos _ (by decide), Int.ediv_nonneg s3 (by omega), ?_, ?_⟩
      · have := Int.emod_nonneg rs (by omega : (sz : Int) ≠ 0)
        simp [Int.toNat_of_nonneg this]
      · rw [List.length_append, s4]; simp; omega
      · intro d hd
        rcases List.mem_append.mp hd with hd | hd
        · exact s5 d hd
        · rw [List.mem_singleton.mp hd]
          have := Int.emod_lt_of_pos rs hz
          have := Int.emod_nonneg rs (by omega : (sz : Int) ≠ 0)
          omega
    · refine sj_if (tv_gt (ev_v 6) ev_int) (fun hk => ?_) (fun hk => ?_)
      · simp only [decide_eq_true_eq] at hk
        refine sj_expr (ev_append 0 (ev_v 3) (ev_mod (ev_fdiv (ev_v 5) ev_int ⟨by decide, by decide⟩) (ev_v 2) (by omega)) rfl rfl (by rw [List.length_map]; omega)) ?_
        refine sj_nil (sj_nil (sj_nil ?_))
        have hz : (0 : Int) < sz := by omega
        generalize hx : ((st * st + 48271 * st + ↑i + 1) % 2305843009213693951) = x
        refine ⟨_, _, ds ++ [(x / 4096 % (sz : Int)).toNat], _, rfl, ?_, ?_, ?_, s3, ?_, ?_⟩
        · have := Int.emod_nonneg (x / 4096) (by omega : (sz : Int) ≠ 0)
          simp [Int.toNat_of_nonneg this]
        · rw [← hx]; exact Int.emod_nonneg _ (by decide)
        · rw [← hx]; exact Int.emod_lt_of_pos _ (by decide)
        · rw [List.length_append, s4]; simp; omega
        · intro d hd
          rcases List.mem_append.mp hd with hd | hd
          · exact s5 d hd
          · rw [List.mem_singleton.mp hd]
            have := Int.emod_lt_of_pos (x / 4096) hz
            have := Int.emod_nonneg (x / 4096) (by omega : (sz : Int) ≠ 0)
            omega
      · simp only [decide_eq_false_iff_not] at hk
        refine sj_nil (sj_nil (sj_nil ?_))
        exact ⟨_, _, ds, _, rfl, rfl, Int.emod_nonneg _ (by decide), Int.emod_lt_of_pos _ (by decide), s3, by omega, s5⟩
  · rintro ss O ⟨rs, st, ds, kk, rfl, rfl, s1, s2, s3, s4, s5⟩
    refine sj_frzL 3 0 rfl rfl ?_
    exact sj_ret (ev_v 3) (fin0 (h ds (by omega) s5))
/-! ### _law_bag -/
def tBag (K : PySem.W.Frag) : DSp := fun ks B k _ => ∃ a ns, ∃ i : Nat, ks = [.val (.ref a), .dat (.int i)] ∧ ScB K a ns B ∧ ∀ p ds, Gd ds → k (.val (.ref p)) ((p, BagO ds 0) :: B)
theorem sc_bag : FnScope ["script", "k"] ["script", "k"] (defScope s_bag) := ⟨rfl, rfl, rfl, by decide +kernel, rfl, by decide +kernel, by decide +kernel⟩
theorem c_bag (D : Dfn K mg "_law_bag" s_bag) (c1 : Cal P w K mg base "_law_cell_at" 1 ["script", "k"] (tCell K)) (c2 : Cal P w K mg base "_law_draws" 1 ["cell", "many", "size"] tDraws) : Cal P w K mg base "_law_bag" 2 ["script", "k"] (tBag K) := by
  refine cal_of D sc_bag (fun _ _ _ _ _ _ us hl => match us, hl with | [_, _], _ => rfl) (fun ks B k R ⟨a, ns, i, h, _⟩ => by rw [h]; rfl) ?_
  rintro f cdv A outer s H E ks B k R hr ⟨a, ns, i, rfl, hB, h⟩
  refine sj_retJ (ej_lst (aj_cons (ej_cal c2 hr (Nat.le_refl _) (av_cons (k := .dat (.int (ns.getD i 0))) (O1 := B) (ej_calP (B := B) (F := []) c1 hr (Nat.le_refl _) (av_cons (ev_v 0) (av_cons (ev_v 1) av_nil)) (by rw [List.append_nil]) ⟨a, ns, i, rfl, hB, rfl, List.append_nil _⟩) (av_cons ev_int (av_cons ev_int av_nil)))
    ⟨_, 400, 1000, rfl, rfl, by decide, by decide, by decide, fun ds h1 h2 => ?_⟩) (fun k O1 hk => hk)))
  refine (av_cons ev_int av_nil).to ⟨[.list (dN ds), .int 0], rfl, by simp, fun p => finA (h p ds ⟨h1, h2⟩)⟩
/-! ### _law_bags -/
def tBags (K : PySem.W.Frag) : DSp := fun ks B k _ => ∃ a ns, ∃ l : Nat, ks = [.val (.ref a), .dat (.int l)] ∧ ScB K a ns B ∧ l ≤ 1000 ∧ ∀ pl bs, (∀ b ∈ bs, Gd b.2) → k (.val (.ref pl)) ((pl, .okl (bagRefs bs)) :: bagObs bs)
theorem sc_bags : FnScope ["script", "limit", "k"] ["script", "limit"] (defScope s_bags) := ⟨rfl, rfl, rfl, by decide +kernel, rfl, by decide +kernel, by decide +kernel⟩
theorem c_bags (D : Dfn K mg "_law_bags" s_bags) (b : Bn mg) (c1 : Cal P w K mg base "_law_bag" 2 ["script", "k"] (tBag K)) : Cal P w K mg base "_law_bags" 3 ["script", "limit"] (tBags K) := by
  refine cal_of D sc_bags (fun _ _ _ _ _ _ us hl => match us, hl with | [_, _], _ => rfl) (fun ks B k R ⟨a, ns, i, h, _⟩ => by rw [h]; rfl) ?_
  rintro f cdv A outer s H E ks B k R hr ⟨a, ns, l, rfl, hB, hl, h⟩
  refine sj_retJ (EJ.imp (EJ.nd (ej_lj (Φ := fun k O' => ∃ p bs O2, k = .val (.ref p) ∧ O' = (p, .okl (bagRefs bs)) :: O2 ∧ (bs.map (·.1)).Nodup ∧ ∀ b ∈ bs, Gd b.2 ∧ (b.1, BagO b.2 0) ∈ O2)
    (lj_own1 2 (fun i acc O => ∃ (bs : List (Addr × List Nat)) (F : Store), bs.length = i ∧ acc = bagRefs bs ∧ O.Perm (B ++ F) ∧ (bs.map (·.1)).Nodup ∧ ∀ b ∈ bs, Gd b.2 ∧ (b.1, BagO b.2 0) ∈ F)
      (blkOk_by (N := ["script", "limit", "k"]) (sc := defScope s_bags) (own := [("k", 2)]) (by decide +kernel)) sc_bags.nd
      (ij_range1 (ev_max2 ev_int (ev_min2 (ev_v 1) (ev_lenR (ev_v 0) hB b.len) rfl b.min) rfl b.max) ?_ ?_ b.range) ?_ ⟨[], [], rfl, rfl, by rw [List.append_nil], List.nodup_nil, fun _ h => (nomatch h)⟩ (fun _ _ _ _ => trivial) ?_ ?_) ?_ sc_bags.nd)) ?_)
  · split <;> split <;> omega
  · split <;> split <;> omega
  · split <;> split <;> omega
  · rintro i acc O ⟨bs, F, e1, e2, _⟩
    rw [e2, List.length_map, e1]
    exact Nat.le_refl _
  · rintro i acc O2 hi ⟨bs, F, rfl, rfl, hs, hn, hm⟩ s H C cl fp
    refine EJ.imp (EJ.nd (ej_calP c1 hr (Nat.le_refl _) (av_cons (ev_v 0) (av_cons (ev_v 2) av_nil)) hs (Φ := fun k O' => ∃ p ds, k = .val (.ref p) ∧ Gd ds ∧ O' = ((p, BagO ds 0) :: B) ++ F) ⟨a, ns, bs.length, rfl, hB, fun p ds g => ⟨p, ds, rfl, g, rfl⟩⟩)) ?_
    rintro k O' ⟨⟨p, ds, rfl, g, rfl⟩, nd⟩
    refine ⟨bs ++ [(p, ds)], (p, BagO ds 0) :: F, by simp, by simp, List.perm_middle.symm, ?_, ?_⟩
    · rw [List.map_append, List.nodup_append]
      refine ⟨hn, by simp, fun x hx y hy e => ?_⟩
      obtain ⟨b, hb, rfl⟩ := List.mem_map.mp hx
      have : y = p := by simpa using hy
      subst this
      have h1 := (List.nodup_cons.mp nd).1
      exact h1 (List.mem_map.mpr ⟨_, List.mem_append_right _ (hm b hb).2, e⟩)
    · intro b hb
      rcases List.mem_append.mp hb with hb | hb
      · exact ⟨(hm b hb).1, List.mem_cons_of_mem _ (hm b hb).2⟩
      · have : b = (p, ds) := by simpa using hb
        subst this
        exact ⟨g, List.mem_cons_self⟩
  · rintro p O' ⟨acc, O2, e, bs, F, e1, e2, e3, e4, e5⟩
    exact ⟨p, bs, O2, rfl, by rw [e, e2], e4, fun b hb => ⟨(e5 b hb).1, e3.mem_iff.mpr (List.mem_append_right _ (e5 b hb).2)⟩⟩
  · rintro kk O' ⟨⟨p, bs, O2, rfl, rfl, h4, h5⟩, nd⟩
    refine ⟨(p, .okl (bagRefs bs)) :: bagObs bs, fun q hq => ?_, fun _ => ?_, h p bs fun b hb => (h5 b hb).1⟩
    · rcases List.mem_cons.mp hq with hq | hq
      · rw [hq]; exact List.mem_cons_self
      · obtain ⟨b, hb, rfl⟩ := List.mem_map.mp hq
        exact List.mem_cons_of_mem _ (h5 b hb).2
    · have e : (bagObs bs).map (·.1) = bs.map (·.1) := by rw [List.map_map]; rfl
      rw [List.map_cons, e]
      refine List.nodup_cons.mpr ⟨fun hm => ?_, h4⟩
      obtain ⟨b, hb, e⟩ := List.mem_map.mp hm
      exact (List.nodup_cons.mp nd).1 (List.mem_map.mpr ⟨_, (h5 b hb).2, e⟩)
/-! ### _law_take -/
def tTake : DSp := fun ks B k _ => ∃ p ds, ∃ i n : Nat, ks = [.val (.ref p), .dat (.int n)] ∧ B = [(p, BagO ds i)] ∧ 0 < n ∧ Gd ds ∧ k (.dat (.int (tk ds (i + 1) n))) [(p, BagO ds (i + 1))]
theorem sc_take : FnScope ["bag", "many"] ["bag", "many"] (defScope s_take) := ⟨rfl, rfl, rfl, by decide +kernel, rfl, by decide +kernel, by decide +kernel⟩
theorem c_take (D : Dfn K mg "_law_take" s_take) (b : Bn mg) : Cal P w K mg base "_law_take" 1 ["bag", "many"] tTake := by
  refine cal_of D sc_take (fun _ _ _ _ _ _ us hl => match us, hl with | [_, _], _ => rfl) (fun ks B k R ⟨a, o, ns, i, h, _⟩ => by rw [h]; rfl) ?_
  rintro f cdv A outer s H E ks B k R hr ⟨p, ds, i, n, rfl, rfl, hn, hg, h⟩
  refine sj_setIx 0 (ev_add (ev_ixO 0 (ev_v 0) ev_int rfl rfl) ev_int) (ev_v 0) ev_int rfl (n := 1) rfl ?_
  have hl : (0 : Int) < (dN ds).length := by rw [List.length_map, hg.1]; decide
  have hm : (i + 1) % ds.length < ds.length := Nat.mod_lt _ (by rw [hg.1]; decide)
  refine sj_ret (ev_mod (ev_ixL (ev_ixO 0 (ev_v 0) ev_int rfl (d := .list (dN ds)) rfl) (ev_mod (ev_ixO 0 (ev_v 0) ev_int rfl (d := .int ((i : Int) + 1)) rfl) (ev_lenL (ev_ixO 0 (ev_v 0) ev_int rfl (d := .list (dN ds)) rfl) b.len) hl) (d := .int (ds.getD ((i + 1) % ds.length) 0 : Nat)) ?_) (ev_v 1) (by omega)) ?_
  · have e : ((i : Int) + 1) % ((dN ds).length : Nat) = (((i + 1) % ds.length : Nat) : Int) := by
      rw [List.length_map]; simp
    rw [e]
    refine atI_nat ?_
    rw [List.getElem?_map, List.getElem?_eq_getElem hm, List.getD_eq_getElem?_getD, List.getElem?_eq_getElem hm]
    rfl
  · have e : ((ds.getD ((i + 1) % ds.length) 0 : Nat) : Int) % (n : Int) = (tk ds (i + 1) n : Nat) := by simp [tk]
    rw [e]
    exact finA h
theorem ev_intE {X : Cx} {R : Addr → Prop} {e : Expr} {ss : List Kd} {O O' : Store} {i j : Int} (h : EV X R e ss O (.dat (.int i)) O') (q : i = j) : EV X R e ss O (.dat (.int j)) O' := by subst q; exact h
theorem ev_take {X : Cx} {R : Addr → Prop} {e1 e2 : Expr} {ss : List Kd} {O : Store} {pos q : Pos} {p : Addr} {ds : List Nat} {i n m : Nat} (c : Cal X.prog X.w X.K X.mg X.base "_law_take" 1 ["bag", "many"] tTake) (hr : Room m X.A) (hl : 1 ≤ m) (ha : EV X R e1 ss ((p, BagO ds i) :: O) (.val (.ref p)) ((p, BagO ds i) :: O)) (hb : EV X R e2 ss ((p, BagO ds i) :: O) (.dat (.int n)) ((p, BagO ds i) :: O))
    (hn : 0 < n) (hg : Gd ds) (hgl : Gl X "_law_take" := by rfl) (he : starEach [e1, e2] X.env = (false, eval e1 X.env) :: starEach [e2] X.env := by rfl) (he2 : starEach [e2] X.env = (false, eval e2 X.env) :: starEach [] X.env := by rfl) (hpl : (backTo pos (starEach [e2] X.env)).any (·.1) = false := by rfl) : EV X R (.Call (.Name "_law_take" q) [e1, e2] [] pos) ss ((p, BagO ds i) :: O) (.dat (.int (tk ds (i + 1) n))) ((p, BagO ds (i + 1)) :: O) :=
  ej_calO 0 c hr hl (av_cons ha (av_cons hb av_nil he2) he) rfl ⟨p, ds, i, n, rfl, rfl, hn, hg, rfl, rfl⟩ hgl (by decide) he hpl
end
end Fc
end
section
namespace Fc
open PySem PySem.Spec PyProof.Rows L2 Dl
open Evl (Ex)
section
variable {P : Program} {w : World} {K : PySem.W.Frag} {mg : Str → Option Value} {base : Heap}
/-! ### _law_pool -/
def tPool : DSp := fun ks B k _ => ∃ p ds, ∃ i : Nat, ks = [.val (.ref p)] ∧ B = [(p, BagO ds i)] ∧ Gd ds ∧ ∀ po ∈ pools, k (.dat (dS po)) [(p, BagO ds (i + 1))]
theorem sc_pool : FnScope ["bag"] ["bag"] (defScope s_pool) := ⟨rfl, rfl, rfl, by decide +kernel, rfl, by decide +kernel, by decide +kernel⟩
theorem c_pool (D : Dfn K mg "_law_pool" s_pool) (c1 : Cal P w K mg base "_law_take" 1 ["bag", "many"] tTake) : Cal P w K mg base "_law_pool" 2 ["bag"] tPool := by
  refine cal_of D sc_pool (fun _ _ _ _ _ _ us hl => match us, hl with | [_], _ => rfl) (fun ks B k R ⟨a, o, ns, h, _⟩ => by rw [h]; rfl) ?_
  rintro f cdv A outer s H E ks B k R hr ⟨p, ds, i, rfl, rfl, hg, h⟩
  have hlt : tk ds (i + 1) 5 < pools.length := tk_lt (by decide)
  refine sj_ret (ev_ixL (EN.frz (en_lst (ds := pools.map dS) (av_cons (ev_strE (y := sL [97, 98]) (by decide +kernel)) (av_cons (ev_strE (y := sL [97, 98, 99]) (by decide +kernel)) (av_cons (ev_strE (y := sL [97, 98, 38, 59]) (by decide +kernel)) (av_cons (ev_strE (y := sL [38, 59, 60, 39, 32, 97]) (by decide +kernel)) (av_cons (ev_strE (y := sL [97, 98, 99, 100, 101, 102, 103, 104]) (by decide +kernel)) av_nil))))) rfl (by decide)))
    (ev_take c1 hr (Nat.le_refl _) (ev_v 0) ev_int (by decide) hg) (d := dS pools[tk ds (i + 1) 5]) ?_) (finA (h _ (List.getElem_mem hlt)))
  refine atI_nat ?_
  rw [List.getElem?_map, List.getElem?_eq_getElem hlt]
  rfl
/-! ### _law_layer -/
def tLayer : DSp := fun ks B k _ => ∃ p ds, ∃ i most : Nat, ∃ po : Tx, ks = [.val (.ref p), .dat (dS po), .dat (.int most)] ∧ B = [(p, BagO ds i)] ∧ Gd ds ∧ po ≠ [] ∧ po.Nodup ∧ po.length ≤ 1000 ∧ 0 < most ∧ most ≤ 1000 ∧ ∀ L i', IsLay po most L → k (.dat (layD L)) [(p, BagO ds i')]
abbrev nLayer : List Str := ["bag", "pool", "most", "found", "sign", "size", "text", "turn"]
theorem sc_layer : FnScope nLayer ["bag", "pool", "most"] (defScope s_layer) := ⟨rfl, rfl, rfl, by decide +kernel, rfl, by decide +kernel, by decide +kernel⟩
theorem c_layer (D : Dfn K mg "_law_layer" s_layer) (b : Bn mg) (c1 : Cal P w K mg base "_law_take" 1 ["bag", "many"] tTake) : Cal P w K mg base "_law_layer" 2 ["bag", "pool", "most"] tLayer := by
  refine cal_of D sc_layer (fun _ _ _ _ _ _ us hl => match us, hl with | [_, _, _], _ => rfl) (fun ks B k R ⟨a, o, ns, _, _, h, _⟩ => by rw [h]; rfl) ?_
  rintro f cdv A outer s H E ks B k R hr ⟨p, ds, i, most, po, rfl, rfl, hg, hp0, hpn, hpl, hm0, hm1, h⟩
  refine sj_set 3 (ev_tup (ds := []) av_nil rfl (by simp)) ?_ sc_layer.nd
  obtain ⟨zs, ez, pz, sz⟩ := srt_signs po
  have sz := pw_le_nodup sz (pz.nodup_iff.mpr hpn)
  have lz := pz.length_eq
  have hpos : 0 < po.length := List.length_pos_iff.mpr hp0
  refine sj_for1 4 (fun i ss O => ∃ (L : Lay) (i' : Nat) (k4 k5 k6 k7 : Kd), ss = [.val (.ref p), .dat (dS po), .dat (.int most), .dat (layD L), k4, k5, k6, k7] ∧ O = [(p, BagO ds i')] ∧ IsLay po most L ∧ ∀ c ∈ L.map (·.1), c ∈ zs.take i)
    sc_layer.nd (ij_list (EN.frz (en_sortS (ev_v 1) (by omega) rfl b.sorted))) ⟨[], i, .und, .und, .und, .und, rfl, rfl, ⟨by simp, .nil, fun _ h => (nomatch h)⟩, fun _ h => (nomatch h)⟩ (fun _ _ _ _ => trivial) ?_ ?_
  · rintro j ss O hj ⟨L, i', k4, k5, k6, k7, rfl, rfl, hL, hc⟩
    rw [ez, List.length_map, List.length_map] at hj
    have ei : ((srtT (po.map fun c => [c])).map dS).getD j .none = dS [zs[j]] := by
      rw [ez, List.getD_eq_getElem?_getD, List.getElem?_map, List.getElem?_map, List.getElem?_eq_getElem hj]
      rfl
    rw [ei]
    refine sj_if (wv_and (tv_eqI hr (ev_take c1 hr (Nat.le_refl _) (ev_v 0) ev_int (by decide) hg) ev_int) (fun _ => wv_and1 (tv_lt (ev_lenT (ev_v 3) b.len) ev_int)) (fun _ => rfl)).tv (fun h1 => ?_) (fun h1 => ?_)
    · have hlen : L.length < 8 := by
        have := (Bool.and_eq_true_iff.mp h1).2
        rw [decide_eq_true_eq, List.length_map] at this
        omega
      have ht := tk_lt (ds := ds) (i := i' + 1 + 1) hm0
      refine sj_set 5 (ev_add ev_int (ev_take c1 hr (Nat.le_refl _) (ev_v 0) (ev_v 2) hm0 hg)) ?_ sc_layer.nd
      generalize htn : tk ds (i' + 1 + 1) most = t0 at ht ⊢
      refine sj_setJ 6 (ej_joinJ (Inv := fun xs O => xs.length = 1 + t0 ∧ (∀ x ∈ xs, ∃ c ∈ po, x = [c]) ∧ ∃ i'', O = [(p, BagO ds i'')]) (ev_strE (y := sL []) (by decide +kernel)) rfl (EJ.imp (EJ.frzJ (Inv := fun ds' O => ∃ xs : List Tx, ds' = xs.map dS ∧ xs.length = 1 + t0 ∧ (∀ x ∈ xs, ∃ c ∈ po, x = [c]) ∧ ∃ i'', O = [(p, BagO ds i'')]) (ej_lj (lj_inv1 7 (fun n acc O => ∃ xs : List Tx, acc = xs.map dS ∧ xs.length = n ∧ (∀ x ∈ xs, ∃ c ∈ po, x = [c]) ∧ ∃ i'', O = [(p, BagO ds i'')])
        (blkOk_by (N := nLayer) (sc := defScope s_layer) (own := [("turn", 7)]) (by decide +kernel)) sc_layer.nd (ij_range1 (ev_v 5) (by omega) (by omega) b.range) ?_ ⟨[], rfl, rfl, fun _ h => (nomatch h), _, rfl⟩ (fun _ _ _ _ => trivial) ?_ ?_) ?_ sc_layer.nd)) ?_) ?_) sc_layer.nd
      · omega
      · rintro n acc O ⟨xs, rfl, e, _⟩
        rw [List.length_map, e]
        exact Nat.le_refl _
      · rintro n acc O2 hn ⟨xs, rfl, rfl, hx, i'', rfl⟩ s H C cl fp
        have hq := tk_lt (ds := ds) (i := i'' + 1) hpos
        refine EV.to (ev_ixS (ev_v 1) (ev_take c1 hr (Nat.le_refl _) (ev_v 0) (ev_lenS (ev_v 1) (by omega) b.len) hpos hg) (c := po[tk ds (i'' + 1) po.length]) (atI_nat (List.getElem?_eq_getElem hq)) (by omega)) ⟨_, rfl, xs ++ [[po[tk ds (i'' + 1) po.length]]], by rw [List.map_append]; rfl, by simp, ?_, _, rfl⟩
        intro x hx'
        rcases List.mem_append.mp hx' with hx' | hx'
        · exact hx x hx'
        · exact ⟨_, List.getElem_mem hq, List.mem_singleton.mp hx'⟩
      · rintro q O' ⟨acc, O2, rfl, xs, rfl, e1, e2, e3⟩
        exact ⟨q, _, O2, rfl, rfl, xs, rfl, by omega, e2, e3⟩
      · rintro kk O' ⟨dl, rfl, xs, rfl, e1, e2, e3⟩
        refine ⟨_, rfl, xs, rfl, ?_, e1, e2, e3⟩
        have : ∀ ys : List Tx, (∀ x ∈ ys, ∃ c ∈ po, x = [c]) → ys.flatten.length = ys.length := fun ys hy => by
          induction ys with
          | nil => rfl
          | cons y ys ih =>
            obtain ⟨c, _, rfl⟩ := hy y List.mem_cons_self
            rw [List.flatten_cons, List.length_append, ih fun x hx => hy x (List.mem_cons_of_mem _ hx), List.length_cons]
            simp
            omega
        rw [this xs e2, e1]
        omega
      · rintro xs O' ⟨e1, e2, i'', rfl⟩
        have fl : xs.flatten.length = xs.length ∧ ∀ c ∈ xs.flatten, c ∈ po := by
          clear e1
          induction xs with
          | nil => exact ⟨rfl, fun _ h => (nomatch h)⟩
          | cons y ys ih =>
            obtain ⟨c, hc', rfl⟩ := e2 y List.mem_cons_self
            obtain ⟨i1, i2⟩ := ih fun x hx => e2 x (List.mem_cons_of_mem _ hx)
            refine ⟨by rw [List.flatten_cons, List.length_append, i1, List.length_cons]; simp; omega, fun d hd => ?_⟩
            rw [List.flatten_cons] at hd
            rcases List.mem_append.mp hd with hd | hd
            · rw [List.mem_singleton.mp hd]; exact hc'
            · exact i2 d hd
        refine sj_set 3 (k := .dat (layD (L ++ [(zs[j], xs.flatten)]))) (by
          rw [show layD (L ++ [(zs[j], xs.flatten)]) = .tuple (L.map pairD ++ [pairD (zs[j], xs.flatten)]) by simp [layD]]
          exact ev_tadd (ev_v 3) (ev_tup (ds := [pairD (zs[j], xs.flatten)]) (av_cons (ev_tup (ds := [dS [zs[j]], dS xs.flatten]) (av_cons (ev_v 4) (av_cons (ev_v 6) av_nil)) rfl (by rw [sizeLine_eq]; exact (by decide : 2 ≤ 16777216))) av_nil) rfl (by rw [sizeLine_eq]; exact (by decide : 1 ≤ 16777216))) (by rw [List.length_map]; show L.length + 1 ≤ _; omega)) ?_ sc_layer.nd
        refine sj_nil (sj_nil ?_)
        refine ⟨L ++ [(zs[j], xs.flatten)], i'', _, _, _, _, rfl, rfl, ⟨by simp; omega, ?_, ?_⟩, ?_⟩
        · rw [List.map_append, List.pairwise_append]
          refine ⟨hL.ord, by simp, fun x hx y hy => ?_⟩
          have : y = zs[j] := by simpa using hy
          rw [this]
          exact take_lt sz hj x (hc x hx)
        · intro q hq
          rcases List.mem_append.mp hq with hq | hq
          · exact hL.ok q hq
          · rw [List.mem_singleton.mp hq]
            refine ⟨pz.mem_iff.mp (List.getElem_mem hj), ?_, ?_, fl.2⟩
            · show 1 ≤ xs.flatten.length
              omega
            · show xs.flatten.length ≤ most
              omega
        · intro c hc'
          rw [List.map_append] at hc'
          rw [List.take_succ_eq_append_getElem hj]
          rcases List.mem_append.mp hc' with hc' | hc'
          · exact List.mem_append_left _ (hc c hc')
          · refine List.mem_append_right _ ?_
            simpa using hc'
    · refine sj_nil (sj_nil ?_)
      refine ⟨L, i' + 1, _, _, _, _, rfl, rfl, hL, fun c hc' => ?_⟩
      exact (List.take_sublist_take_left (Nat.le_succ j)).subset (hc c hc')
  · rintro ss O ⟨L, i', k4, k5, k6, k7, rfl, rfl, hL, hc⟩
    exact sj_ret (ev_v 3) (finA (h L i' hL))
/-! ### _law_stack -/
def tStack : DSp := fun ks B k _ => ∃ p ds, ∃ i many most : Nat, ∃ po : Tx, ks = [.val (.ref p), .dat (dS po), .dat (.int many), .dat (.int most)] ∧ B = [(p, BagO ds i)] ∧ Gd ds ∧ po ≠ [] ∧ po.Nodup ∧ po.length ≤ 1000 ∧ 0 < most ∧ most ≤ 1000 ∧ many ≤ 1000 ∧ ∀ (Ls : List Lay) (i' : Nat), Ls.length ≤ many → (∀ L ∈ Ls, IsLay po most L) → k (.dat (stkD Ls)) [(p, BagO ds i')]
abbrev nStack : List Str := ["bag", "pool", "many", "most", "turn"]
theorem sc_stack : FnScope nStack ["bag", "pool", "many", "most"] (defScope s_stack) := ⟨rfl, rfl, rfl, by decide +kernel, rfl, by decide +kernel, by decide +kernel⟩
theorem c_stack (D : Dfn K mg "_law_stack" s_stack) (b : Bn mg) (c1 : Cal P w K mg base "_law_take" 1 ["bag", "many"] tTake) (c2 : Cal P w K mg base "_law_layer" 2 ["bag", "pool", "most"] tLayer) : Cal P w K mg base "_law_stack" 3 ["bag", "pool", "many", "most"] tStack := by
  refine cal_of D sc_stack (fun _ _ _ _ _ _ us hl => match us, hl with | [_, _, _, _], _ => rfl) (fun ks B k R ⟨a, o, ns, _, _, _, h, _⟩ => by rw [h]; rfl) ?_
  rintro f cdv A outer s H E ks B k R hr ⟨p, ds, i, many, most, po, rfl, rfl, hg, hp0, hpn, hpl, hm0, hm1, hmy, h⟩
  have ht := tk_lt (ds := ds) (i := i + 1) (n := many + 1) (by omega)
  refine sj_retJ (ej_tupJ (Inv := fun ds' O => ∃ (Ls : List Lay) (i' : Nat), ds' = Ls.map layD ∧ Ls.length ≤ many ∧ (∀ L ∈ Ls, IsLay po most L) ∧ O = [(p, BagO ds i')]) (EJ.frzJ (ej_lj (lj_inv1 4 (fun n acc O => ∃ (Ls : List Lay) (i' : Nat), acc = Ls.map layD ∧ Ls.length = n ∧ (∀ L ∈ Ls, IsLay po most L) ∧ O = [(p, BagO ds i')])
    (blkOk_by (N := nStack) (sc := defScope s_stack) (own := [("turn", 4)]) (by decide +kernel)) sc_stack.nd (ij_range1 (ev_take (n := many + 1) c1 hr (by decide) (ev_v 0) (ev_intE (ev_add (ev_v 2) ev_int) (by omega)) (by omega) hg) (by omega) (by omega) b.range) ?_ ⟨[], _, rfl, rfl, fun _ h => (nomatch h), rfl⟩ (fun _ _ _ _ => trivial) ?_ ?_) ?_ sc_stack.nd)) b.tuple ?_)
  · omega
  · rintro n acc O ⟨Ls, i', rfl, e, _⟩
    rw [List.length_map, e]
    exact Nat.le_refl _
  · rintro n acc O2 hn ⟨Ls, i', rfl, rfl, hL, rfl⟩ s H C cl fp
    refine ej_calO 0 c2 hr (by decide) (av_cons (ev_v 0) (av_cons (ev_v 1) (av_cons (ev_v 3) av_nil))) rfl ⟨p, ds, i', most, po, rfl, rfl, hg, hp0, hpn, hpl, hm0, hm1, fun L i'' hLL => ?_⟩
    refine ⟨_, rfl, Ls ++ [L], i'', by rw [List.map_append]; rfl, by simp, fun M hM => ?_, rfl⟩
    rcases List.mem_append.mp hM with hM | hM
    · exact hL M hM
    · rw [List.mem_singleton.mp hM]; exact hLL
  · rintro q O' ⟨acc, O2, rfl, Ls, i', rfl, e, hL, rfl⟩
    exact ⟨q, _, _, rfl, rfl, Ls, i', rfl, by omega, hL, rfl⟩
  · rintro dl O' ⟨Ls, i', rfl, e, hL, rfl⟩
    exact finA (h Ls i' e hL)
end
end Fc
end
section
namespace Fc
open PySem PySem.Spec PyProof.Rows L2 Dl
open Evl (Ex)
/-- texts of one sign each, joined -/
theorem flat_one {po : Tx} : ∀ {xs : List Tx}, (∀ x ∈ xs, ∃ c ∈ po, x = [c]) → xs.flatten.length = xs.length ∧ ∀ c ∈ xs.flatten, c ∈ po
  | [], _ => ⟨rfl, fun _ h => (nomatch h)⟩
  | y :: ys, e2 => by
    obtain ⟨c, hc', rfl⟩ := e2 y List.mem_cons_self
    obtain ⟨i1, i2⟩ := flat_one (xs := ys) fun x hx => e2 x (List.mem_cons_of_mem _ hx)
    refine ⟨by rw [List.flatten_cons, List.length_append, i1, List.length_cons]; simp; omega, fun d hd => ?_⟩
    rw [List.flatten_cons] at hd
    rcases List.mem_append.mp hd with hd | hd
    · rw [List.mem_singleton.mp hd]; exact hc'
    · exact i2 d hd
section
variable {P : Program} {w : World} {K : PySem.W.Frag} {mg : Str → Option Value} {base : Heap}
/-! ### _law_text -/
def tText : DSp := fun ks B k _ => ∃ p ds, ∃ i most : Nat, ∃ po : Tx, ks = [.val (.ref p), .dat (dS po), .dat (.int most)] ∧ B = [(p, BagO ds i)] ∧ Gd ds ∧ po.length ≤ 1000 ∧ most ≤ 1000 ∧ ∀ (t : Tx) (i' : Nat), t.length ≤ most → (∀ c ∈ t, c ∈ po ++ [122, 126]) → k (.dat (dS t)) [(p, BagO ds i')]
theorem c_text (D : Dfn K mg "_law_text" s_text) (b : Bn mg) (c1 : Cal P w K mg base "_law_take" 1 ["bag", "many"] tTake) : Cal P w K mg base "_law_text" 2 ["bag", "pool", "most"] tText := by
  refine cal_of D sc_law_text (fun _ _ _ _ _ _ us hl => match us, hl with | [_, _, _], _ => rfl) (fun ks B k R ⟨a, o, ns, _, _, h, _⟩ => by rw [h]; rfl) ?_
  rintro f cdv A outer s H E ks B k R hr ⟨p, ds, i, most, po, rfl, rfl, hg, hpl, hm, h⟩
  have nd := sc_law_text.nd
  have fl : (List.replicate 3 po).flatten.length = po.length * 3 := by simp [List.length_flatten]; omega
  refine sj_set 3 (x_add (ev_smul (n := 3) (ev_v 1) ev_int (by omega) (by decide)) (ev_strE (y := sL [122, 126]) (by decide +kernel)) (.str (by rw [fl]; simp; omega))) ?_ nd
  have hsg : ∀ c ∈ (List.replicate 3 po).flatten ++ [122, 126], c ∈ po ++ [122, 126] := fun c hc => by
    rcases List.mem_append.mp hc with hc | hc
    · obtain ⟨l, hl, hm⟩ := List.mem_flatten.mp hc
      rw [List.eq_of_mem_replicate hl] at hm
      exact List.mem_append_left _ hm
    · exact List.mem_append_right _ hc
  have hsl : ((List.replicate 3 po).flatten ++ [122, 126]).length = po.length * 3 + 2 := by rw [List.length_append, fl]; rfl
  generalize (List.replicate 3 po).flatten ++ [122, 126] = sg at hsg hsl ⊢
  have hpos : 0 < sg.length := by omega
  have ht := tk_lt (ds := ds) (i := i + 1) (n := most + 1) (by omega)
  refine sj_retJ (ej_joinJ (Inv := fun xs O => xs.length ≤ most ∧ (∀ x ∈ xs, ∃ c ∈ sg, x = [c]) ∧ ∃ i'', O = [(p, BagO ds i'')]) (ev_strE (y := sL []) (by decide +kernel)) rfl (EJ.imp (EJ.frzJ (Inv := fun ds' O => ∃ xs : List Tx, ds' = xs.map dS ∧ xs.length ≤ most ∧ (∀ x ∈ xs, ∃ c ∈ sg, x = [c]) ∧ ∃ i'', O = [(p, BagO ds i'')]) (ej_lj (lj_inv1 4 (fun n acc O => ∃ xs : List Tx, acc = xs.map dS ∧ xs.length = n ∧ (∀ x ∈ xs, ∃ c ∈ sg, x = [c]) ∧ ∃ i'', O = [(p, BagO ds i'')])
    (blkOk_by (N := n_law_text) (sc := defScope s_text) (own := [("turn", 4)]) (by decide +kernel)) nd (ij_range1 (ev_take (n := most + 1) c1 hr (by decide) (ev_v 0) (ev_intE (ev_add (ev_v 2) ev_int) (by omega)) (by omega) hg) (by omega) (by omega) b.range) ?_ ⟨[], rfl, rfl, fun _ h => (nomatch h), _, rfl⟩ (fun _ _ _ _ => trivial) ?_ ?_) ?_ nd)) ?_) ?_)
  · omega
  · rintro n acc O ⟨xs, rfl, e, _⟩
    rw [List.length_map, e]
    exact Nat.le_refl _
  · rintro n acc O2 hn ⟨xs, rfl, rfl, hx, i'', rfl⟩ s H C cl fp
    have hq := tk_lt (ds := ds) (i := i'' + 1) hpos
    refine EV.to (ev_ixS (ev_v 3) (ev_take c1 hr (Nat.le_refl _) (ev_v 0) (ev_lenS (ev_v 3) (by omega) b.len) hpos hg) (c := sg[tk ds (i'' + 1) sg.length]) (atI_nat (List.getElem?_eq_getElem hq)) (by omega)) ⟨_, rfl, xs ++ [[sg[tk ds (i'' + 1) sg.length]]], by rw [List.map_append]; rfl, by simp, ?_, _, rfl⟩
    intro x hx'
    rcases List.mem_append.mp hx' with hx' | hx'
    · exact hx x hx'
    · exact ⟨_, List.getElem_mem hq, List.mem_singleton.mp hx'⟩
  · rintro q O' ⟨acc, O2, rfl, xs, rfl, e1, e2, e3⟩
    exact ⟨q, _, O2, rfl, rfl, xs, rfl, by omega, e2, e3⟩
  · rintro kk O' ⟨dl, rfl, xs, rfl, e1, e2, e3⟩
    exact ⟨_, rfl, xs, rfl, by rw [(flat_one e2).1]; omega, e1, e2, e3⟩
  · rintro xs O' ⟨e1, e2, i'', rfl⟩
    obtain ⟨f1, f2⟩ := flat_one e2
    exact finA (h xs.flatten i'' (by omega) fun c hc => hsg c (f2 c hc))
end
end Fc
end
section
namespace Fc
open PySem PySem.Spec PyProof.Rows L2 Dl
open Evl (Ex)
section
variable {X : Cx} {R : Addr → Prop} {e e1 e2 e3 e4 : Expr} {es : List Expr} {ss : List Kd} {O : Store} {pos q : Pos} {p : Addr} {ds : List Nat} {i m : Nat} {po : Tx}
theorem ej_pool (c : Cal X.prog X.w X.K X.mg X.base "_law_pool" 2 ["bag"] tPool) (hr : Room m X.A) (hl : 2 ≤ m) (ha : EV X R e ss [(p, BagO ds i)] (.val (.ref p)) [(p, BagO ds i)]) (hg : Gd ds) (hgl : Gl X "_law_pool" := by rfl) (he : starEach [e] X.env = (false, eval e X.env) :: starEach [] X.env := by exact star_ne rfl) :
    EJ X R (.Call (.Name "_law_pool" q) [e] [] pos) ss [(p, BagO ds i)] fun k O => ∃ po, k = .dat (dS po) ∧ po ∈ pools ∧ O = [(p, BagO ds (i + 1))] :=
  ej_calO 0 c hr hl (av_cons ha av_nil he) rfl ⟨p, ds, i, rfl, rfl, hg, fun po hpo => ⟨po, rfl, hpo, rfl⟩⟩ hgl (by decide) he rfl
theorem ej_stack {many most : Nat} (c : Cal X.prog X.w X.K X.mg X.base "_law_stack" 3 ["bag", "pool", "many", "most"] tStack) (hr : Room m X.A) (hl : 3 ≤ m) (hpo : po ∈ pools)
    (ha : AV X R (e :: es) ss O [.val (.ref p), .dat (dS po), .dat (.int many), .dat (.int most)] [(p, BagO ds i)]) (hg : Gd ds) (hmy : many ≤ 1000) (h0 : 0 < most) (hmo : most ≤ 6) (hgl : Gl X "_law_stack" := by rfl) (he : starEach (e :: es) X.env = (false, eval e X.env) :: starEach es X.env := by exact star_ne rfl) (hpl : (backTo pos (starEach es X.env)).any (·.1) = false := by rfl) :
    EJ X R (.Call (.Name "_law_stack" q) (e :: es) [] pos) ss O fun k O => ∃ Ls i', k = .dat (stkD Ls) ∧ SOk Ls ∧ Ls.length ≤ many ∧ (∀ L ∈ Ls, IsLay po most L) ∧ O = [(p, BagO ds i')] := by
  obtain ⟨po1, po2, po3⟩ := pool_ok po hpo
  exact ej_calO 0 c hr hl ha rfl ⟨p, ds, i, many, most, po, rfl, rfl, hg, po1, po3, by omega, h0, by omega, hmy, fun Ls i' h1 h2 => ⟨Ls, i', rfl, fun L hL => islay_ok (pools_sgn po hpo) hmo (h2 L hL), h1, h2, rfl⟩⟩ hgl (by decide) he hpl
theorem ej_layer {most : Nat} (c : Cal X.prog X.w X.K X.mg X.base "_law_layer" 2 ["bag", "pool", "most"] tLayer) (hr : Room m X.A) (hl : 2 ≤ m) (hpo : po ∈ pools)
    (ha : AV X R (e :: es) ss O [.val (.ref p), .dat (dS po), .dat (.int most)] [(p, BagO ds i)]) (hg : Gd ds) (h0 : 0 < most) (hmo : most ≤ 6) (hgl : Gl X "_law_layer" := by rfl) (he : starEach (e :: es) X.env = (false, eval e X.env) :: starEach es X.env := by exact star_ne rfl) (hpl : (backTo pos (starEach es X.env)).any (·.1) = false := by rfl) :
    EJ X R (.Call (.Name "_law_layer" q) (e :: es) [] pos) ss O fun k O => ∃ L i', k = .dat (layD L) ∧ LOk L ∧ IsLay po most L ∧ O = [(p, BagO ds i')] := by
  obtain ⟨po1, po2, po3⟩ := pool_ok po hpo
  exact ej_calO 0 c hr hl ha rfl ⟨p, ds, i, most, po, rfl, rfl, hg, po1, po3, by omega, h0, by omega, fun L i' h2 => ⟨L, i', rfl, islay_ok (pools_sgn po hpo) hmo h2, h2, rfl⟩⟩ hgl (by decide) he hpl
theorem ej_text {most : Nat} (c : Cal X.prog X.w X.K X.mg X.base "_law_text" 2 ["bag", "pool", "most"] tText) (hr : Room m X.A) (hl : 2 ≤ m) (hpo : po ∈ pools)
    (ha : AV X R (e :: es) ss O [.val (.ref p), .dat (dS po), .dat (.int most)] [(p, BagO ds i)]) (hg : Gd ds) (hmo : most ≤ 1000) (hgl : Gl X "_law_text" := by rfl) (he : starEach (e :: es) X.env = (false, eval e X.env) :: starEach es X.env := by exact star_ne rfl) (hpl : (backTo pos (starEach es X.env)).any (·.1) = false := by rfl) :
    EJ X R (.Call (.Name "_law_text" q) (e :: es) [] pos) ss O fun k O => ∃ t i', k = .dat (dS t) ∧ t.length ≤ most ∧ (∀ c ∈ t, c ∈ po ++ [122, 126]) ∧ TOk t ∧ O = [(p, BagO ds i')] := by
  obtain ⟨po1, po2, po3⟩ := pool_ok po hpo
  refine ej_calO 0 c hr hl ha rfl ⟨p, ds, i, most, po, rfl, rfl, hg, by omega, hmo, fun t i' h1 h2 => ⟨t, i', rfl, h1, h2, fun c hc => ?_, rfl⟩⟩ hgl (by decide) he hpl
  rcases List.mem_append.mp (h2 c hc) with h | h
  · exact pools_sgn po hpo c h
  · exact zt_sgn c h
end
end Fc
end
section
namespace Fc
open PySem PySem.Spec PyProof.Rows L2 Dl
open Evl (Ex)
local macro_rules | `(tactic| walk_at "v") => `(tactic| first | exact ev_v 0 | exact ev_v 1 | exact ev_v 2 | exact ev_v 3 | exact ev_v 4 | exact ev_v 5 | exact ev_v 6 | exact ev_v 7 | exact ev_v 8 | exact ev_v 9 | exact ev_v 10 | exact ev_v 11 | exact ev_v 12 | exact ev_v 13 | exact ev_v 14 | exact ev_v 15 | exact ev_v 16)
local macro_rules | `(tactic| walk_at "side") => `(tactic| first | assumption | rfl | decide | omega | (simp only [List.length_map, List.length_append, List.length_cons, List.length_nil, List.length_singleton] at *; omega))
local macro_rules | `(tactic| walk_at "ck") => `(tactic| (constructor <;> walk_at "side"))
local macro_rules | `(tactic| walk_at "add") => `(tactic| first | exact AddK.nat _ _ | exact AddK.nat1 _ | exact AddK.one _ | exact AddK.int _ _ | (refine AddK.str ?_; walk_at "side") | (refine AddK.lstM ?_; walk_at "side") | (refine AddK.tupM ?_; walk_at "side") | (refine AddK.lst ?_; walk_at "side") | (refine AddK.tup ?_; walk_at "side"))
local macro_rules | `(tactic| walk_at "mul") => `(tactic| first | (refine MulK.nat _ _ ?_; walk_at "side") | (refine MulK.int _ _ ?_; walk_at "side") | (refine MulK.str ?_ ?_ <;> walk_at "side") | (refine MulK.lst ?_ ?_ <;> walk_at "side"))
local macro_rules | `(tactic| walk_at "eq") => `(tactic| first | exact EqK.nat _ _ | exact EqK.int _ _ | exact EqK.str _ _ | exact EqK.bool _ _ | exact EqK.nonS _ | exact EqK.strN _ | exact EqK.intS _ _ | exact EqK.strI _ _ | exact EqK.nonI _ | exact EqK.intN _ | exact EqK.nonN | (refine EqK.gen ?_ ?_ ?_ <;> walk_at "side"))
local macro_rules | `(tactic| walk_at "lt") => `(tactic| first | exact LtK.nat _ _ | exact LtK.int _ _ | exact LtK.str _ _)
local macro_rules | `(tactic| walk_at "le") => `(tactic| first | exact LeK.nat _ _ | exact LeK.int _ _)
local macro_rules | `(tactic| walk_at "len") => `(tactic| first | (refine LenK.str ?_; walk_at "side") | exact LenK.lstM _ | exact LenK.tupM _ | exact LenK.lst _ | exact LenK.tup _)
local macro_rules | `(tactic| walk_at "ix") => `(tactic| first | (refine IxK.lst ?_; first | rfl | assumption) | (refine IxK.tup ?_; first | rfl | assumption) | (refine IxK.lN ?_; first | rfl | assumption) | (refine IxK.tN ?_; first | rfl | assumption) | (refine IxK.sN ?_ ?_ <;> walk_at "side"))
local macro_rules | `(tactic| walk_at "get") => `(tactic| first | exact GetK.mk _ _ _)
local macro_rules | `(tactic| walk_at "sl") => `(tactic| first | exact SlK.tFrom _ _ | exact SlK.tTo _ _ | exact SlK.lFrom _ _ | exact SlK.lTo _ _ | (refine SlK.sFrom _ _ ?_; walk_at "side") | (refine SlK.sTo _ _ ?_; walk_at "side") | (refine SlK.sMid _ _ _ ?_; walk_at "side") | exact SlK.tup _ _ _ | exact SlK.lst _ _ _ | (refine SlK.str ?_; walk_at "side"))
local macro_rules | `(tactic| walk_at "lit") => `(tactic| first | exact ev_strE (y := sL []) (by decide +kernel))
local macro_rules | `(tactic| walk_at "op") => `(tactic| (show OpI _ _ _ _ _ _ _; first | exact op_none | (refine' op_some ?_; (any_goals (walk_at "x")); done)))
local macro_rules | `(tactic| walk_at "blk") => `(tactic| exact blkOk_by (by kernel_rfl))
local macro_rules | `(tactic| walk_at "il") => `(tactic| first
  | (refine' il_tup ?_; (any_goals (walk_at "x")); done)
  | (refine' il_list ?_; (any_goals (walk_at "x")); done)
  | (refine' il_str ?_; (any_goals (walk_at "x")); done))
local macro_rules | `(tactic| walk_at "xs") => `(tactic| (show AV _ _ _ _ _ _ _; first | exact a_nil | (refine' a_cons ?_ ?_; (any_goals (walk_at "x")); (any_goals (walk_at "xs")); done)))
local macro_rules | `(tactic| walk_at "u") => `(tactic| (refine' x_call (by assumption) ?_ ?_ (by assumption); (any_goals (walk_at "xs")); (any_goals (walk_at "ck")); done))
local macro_rules | `(tactic| walk_at "x") => `(tactic| first
  | (show EV _ _ (Expr.Name _ _) _ _ _ _; walk_at "v")
  | (show EV _ _ (Expr.Constant _ _ _) _ _ _ _; first | exact ev_int | exact ev_bl | exact ev_non | walk_at "lit")
  | (show EV _ _ (Expr.BinOp _ Operator.Add _ _) _ _ _ _; refine' x_add ?_ ?_ ?_; (any_goals (walk_at "x")); (any_goals (walk_at "add")); done)
  | (show EV _ _ (Expr.BinOp _ Operator.Sub _ _) _ _ _ _; refine' x_sub ?_ ?_; (any_goals (walk_at "x")); done)
  | (show EV _ _ (Expr.BinOp _ Operator.Mult _ _) _ _ _ _; refine' x_mul ?_ ?_ ?_; (any_goals (walk_at "x")); (any_goals (walk_at "mul")); done)
  | (show EV _ _ (Expr.Call (Expr.Attribute _ "get" _) _ _ _) _ _ _ _; refine' x_get ?_ ?_ ?_ ?_ (by assumption); (any_goals (walk_at "x")); (any_goals (walk_at "get")); done)
  | (show EV _ _ (Expr.Call (Expr.Name "len" _) _ _ _) _ _ _ _; refine' x_len ?_ ?_ (by assumption); (any_goals (walk_at "x")); (any_goals (walk_at "len")); done)
  | (show EV _ _ (Expr.Call (Expr.Name _ _) _ _ _) _ _ _ _; walk_at "u")
  | (show EV _ _ (Expr.Subscript _ (Expr.Slice _ _ _ _) _) _ _ _ _; refine' x_sl ?_ ?_ ?_ ?_; (any_goals (walk_at "x")); (any_goals (walk_at "op")); (any_goals (walk_at "sl")); done)
  | (show EV _ _ (Expr.Subscript _ _ _) _ _ _ _; refine' x_ix ?_ ?_ ?_; (any_goals (walk_at "x")); (any_goals (walk_at "ix")); done)
  | (show EV _ _ (Expr.Tuple _ _ _) _ _ _ _; refine' x_tup ?_; (any_goals (walk_at "xs")); done)
  | (show EV _ _ (Expr.List _ _) _ _ _ _; refine' x_lst ?_; (any_goals (walk_at "xs")); done)
  | (show EV _ _ (Expr.Compare _ [CmpOp.Eq] _ _) _ _ _ _; refine' x_eq ?_ ?_ ?_ (by assumption); (any_goals (walk_at "x")); (any_goals (walk_at "eq")); done)
  | (show EV _ _ (Expr.Compare _ [CmpOp.NotEq] _ _) _ _ _ _; refine' x_ne ?_ ?_ ?_ (by assumption); (any_goals (walk_at "x")); (any_goals (walk_at "eq")); done)
  | (show EV _ _ (Expr.Compare _ [CmpOp.Lt] _ _) _ _ _ _; refine' x_lt ?_ ?_ ?_; (any_goals (walk_at "x")); (any_goals (walk_at "lt")); done)
  | (show EV _ _ (Expr.Compare _ [CmpOp.Gt] _ _) _ _ _ _; refine' x_gt ?_ ?_ ?_; (any_goals (walk_at "x")); (any_goals (walk_at "le")); done)
  | (show EV _ _ (Expr.Compare _ [CmpOp.LtE] _ _) _ _ _ _; refine' x_le ?_ ?_ ?_; (any_goals (walk_at "x")); (any_goals (walk_at "le")); done)
  | (show EV _ _ (Expr.UnaryOp _ _ _) _ _ _ _; refine' ev_not ?_; (any_goals (walk_at "x")); done))
local macro_rules | `(tactic| walk_at "t") => `(tactic| first
  | (show TV _ _ (Expr.Compare _ [CmpOp.Eq] _ _) _ _ _ _; refine' t_eq ?_ ?_ ?_ (by assumption); (any_goals (walk_at "x")); (any_goals (walk_at "eq")); done)
  | (show TV _ _ (Expr.Compare _ [CmpOp.NotEq] _ _) _ _ _ _; refine' t_ne ?_ ?_ ?_ (by assumption); (any_goals (walk_at "x")); (any_goals (walk_at "eq")); done)
  | (show TV _ _ (Expr.Compare _ [CmpOp.Lt] _ _) _ _ _ _; refine' t_lt ?_ ?_ ?_; (any_goals (walk_at "x")); (any_goals (walk_at "lt")); done)
  | (show TV _ _ (Expr.Compare _ [CmpOp.Gt] _ _) _ _ _ _; refine' t_gt ?_ ?_ ?_; (any_goals (walk_at "x")); (any_goals (walk_at "le")); done)
  | (show TV _ _ (Expr.Compare _ [CmpOp.LtE] _ _) _ _ _ _; refine' t_le ?_ ?_ ?_; (any_goals (walk_at "x")); (any_goals (walk_at "le")); done)
  | (show TV _ _ (Expr.Compare _ [CmpOp.Is] _ _) _ _ _ _; refine' t_isN ?_; (any_goals (walk_at "x")); done)
  | (show TV _ _ (Expr.Compare _ [CmpOp.IsNot] _ _) _ _ _ _; refine' t_notN ?_; (any_goals (walk_at "x")); done)
  | (show TV _ _ (Expr.UnaryOp UnaryOp.Not _ _) _ _ _ _; refine' tv_not ?_; (any_goals (walk_at "t")); done)
  | (show TV _ _ _ _ _ _ _; refine' tv_e ?_; (any_goals (walk_at "x")); done))
section
variable {P : Program} {w : World} {K : PySem.W.Frag} {mg : Str → Option Value} {base : Heap}
/-! ### written -/
inductive FWritten : List PyData → PyData → Prop
  | mk {Ls : List Lay} {t : Tx} {n : Nat} (h : SOk Ls) (hl : Ls.length ≤ 5) (ht : TOk t) (hlt : t.length ≤ 200) (hn : n ≤ 1000) (hL : (rn Ls n t).length ≤ 10000) : FWritten [stkD Ls, dS t, .int n] (dS (rn Ls n t))
theorem c_written (D : DfnT K mg "written" s_written) (b : Bn mg) (g : ∃ t, mg "MAX_RESULT" = some (.int 10000 t)) (c1 : Cal P w K mg base "need_stack" 5 ["value"] (PF FNeedS)) (c2 : Cal P w K mg base "need_text" 2 ["value"] (PF FNeedT)) (c3 : CalI P w K mg base "need_times" 2 ["value", "most"] 1000 (PF FNeedN))
    (c4 : Cal P w K mg base "results" 3 ["stack"] (PF FResults)) (c5 : Cal P w K mg base "length_by_runs" 3 ["known", "text", "times"] (PF FLenRuns)) : CalT P w K mg base "written" 6 ["stack", "text", "times"] (PF FWritten) := by
  refine calT_pf D sc_written rfl (fun D doc pm an cdv ct us ks h1 h2 => match us, ks, h1, h2 with | [_, _], [_], _, _ => ⟨_, _, _, _, _, _, rfl, rfl, rfl⟩) (fun kV doc pm an cdv ct us ws h1 h2 => match us, ws, h1, h2 with | [_, _], [_], _, _ => rfl) (fun _ _ h => by cases h; rfl) ?_
  rintro f cdv A outer s H E R ds d hr hF
  have nd := sc_written.nd
  cases hF with | @mk Ls t n h hl ht hlt hn hL
  refine sj_expr (x_call c1 (a_cons (ev_v 0) a_nil) (.mk h hl) hr) ?_
  refine sj_expr (x_call c2 (a_cons (ev_v 1) a_nil) (.mk ht hlt) hr) ?_
  refine sj_expr (x_callI c3 (a_cons (ev_v 2) a_nil) (.mk hn) hr) ?_
  refine sj_set 3 (x_call c4 (a_cons (ev_v 0) a_nil) (fres h (by omega)) hr) ?_ nd
  refine sj_ifR (t_gt (x_call c5 (a_cons (ev_v 3) (a_cons (ev_v 1) (a_cons (ev_v 2) a_nil))) (flen h (by omega) ht (by omega)) hr) (ev_globI rfl g) (.int _ _)) (fun h1 => ?_) (fun _ => ?_)
  · rw [decide_eq_true (by omega : (((rn Ls n t).length : Nat) : Int) ≤ 10000)] at h1
    cases h1
  refine sj_forL 4 (xs := List.range n) (fun pre ss O => ∃ k4 k5, ss = [.dat (stkD Ls), .dat (dS (rn Ls pre.length t)), .dat (.int n), .dat (dK (tKv (res Ls))), k4, k5] ∧ O = []) nd (il_range (ev_v 2) rfl (by omega) b.range) ⟨_, _, rfl, rfl⟩ ?_ ?_
  · rintro pre i post e ss1 O1 ⟨k4, k5, rfl, rfl⟩
    have hpl : pre.length + 1 ≤ n := by
      have : (List.range n).length = pre.length + (post.length + 1) := by rw [e]; simp
      rw [List.length_range] at this; omega
    have l1 := rn_mono h t (m := pre.length) (n := n) (by omega)
    have l2 := rn_mono h t hpl
    have e2 : (rn Ls pre.length t).flatMap (w1 (res Ls)) = rn Ls (pre.length + 1) t := wL_res Ls _
    refine sj_set 1 (k := .dat (dS (rn Ls (pre.length + 1) t))) (O' := []) ?_ ?_ nd
    · rw [← e2]
      refine x_joinM (g := w1 (res Ls)) ev_str (x_lc (lj_mapL 5 (xs := rn Ls pre.length t) (by walk_at "il") (by omega) (by walk_at "blk") nd (fun z hz s H C cl fp => ?_)) nd) (by rw [e2]; omega)
      exact x_get (ev_v 3) (ev_v 5) (ev_v 5) (GetK.t1 _ z) hr
    · exact sj_nil ⟨_, _, by rw [List.length_append]; rfl, rfl⟩
  · rintro ss1 O1 ⟨k4, k5, rfl, rfl⟩
    rw [List.length_range]
    exact sj_ret (ev_v 1) rfl
end
end Fc
end
section
namespace Fc
open PySem PySem.Spec PyProof.Rows L2 Dl
open Evl (Ex)
local macro_rules | `(tactic| walk_at "v") => `(tactic| first | exact ev_v 0 | exact ev_v 1 | exact ev_v 2 | exact ev_v 3 | exact ev_v 4 | exact ev_v 5 | exact ev_v 6 | exact ev_v 7 | exact ev_v 8 | exact ev_v 9 | exact ev_v 10 | exact ev_v 11 | exact ev_v 12 | exact ev_v 13 | exact ev_v 14 | exact ev_v 15 | exact ev_v 16)
local macro_rules | `(tactic| walk_at "side") => `(tactic| first | assumption | rfl | decide | omega | (simp only [List.length_map, List.length_append, List.length_cons, List.length_nil, List.length_singleton] at *; omega))
local macro_rules | `(tactic| walk_at "ck") => `(tactic| (constructor <;> walk_at "side"))
local macro_rules | `(tactic| walk_at "add") => `(tactic| first | exact AddK.nat _ _ | exact AddK.nat1 _ | exact AddK.one _ | exact AddK.int _ _ | (refine AddK.str ?_; walk_at "side") | (refine AddK.lstM ?_; walk_at "side") | (refine AddK.tupM ?_; walk_at "side") | (refine AddK.lst ?_; walk_at "side") | (refine AddK.tup ?_; walk_at "side"))
local macro_rules | `(tactic| walk_at "mul") => `(tactic| first | (refine MulK.nat _ _ ?_; walk_at "side") | (refine MulK.int _ _ ?_; walk_at "side") | (refine MulK.str ?_ ?_ <;> walk_at "side") | (refine MulK.lst ?_ ?_ <;> walk_at "side"))
local macro_rules | `(tactic| walk_at "eq") => `(tactic| first | exact EqK.nat _ _ | exact EqK.int _ _ | exact EqK.str _ _ | exact EqK.bool _ _ | exact EqK.nonS _ | exact EqK.strN _ | exact EqK.intS _ _ | exact EqK.strI _ _ | exact EqK.nonI _ | exact EqK.intN _ | exact EqK.nonN | (refine EqK.gen ?_ ?_ ?_ <;> walk_at "side"))
local macro_rules | `(tactic| walk_at "lt") => `(tactic| first | exact LtK.nat _ _ | exact LtK.int _ _ | exact LtK.str _ _)
local macro_rules | `(tactic| walk_at "le") => `(tactic| first | exact LeK.nat _ _ | exact LeK.int _ _)
local macro_rules | `(tactic| walk_at "len") => `(tactic| first | (refine LenK.str ?_; walk_at "side") | exact LenK.lstM _ | exact LenK.tupM _ | exact LenK.lst _ | exact LenK.tup _)
local macro_rules | `(tactic| walk_at "ix") => `(tactic| first | (refine IxK.lst ?_; first | rfl | assumption) | (refine IxK.tup ?_; first | rfl | assumption) | (refine IxK.lN ?_; first | rfl | assumption) | (refine IxK.tN ?_; first | rfl | assumption) | (refine IxK.sN ?_ ?_ <;> walk_at "side"))
local macro_rules | `(tactic| walk_at "get") => `(tactic| first | exact GetK.mk _ _ _)
local macro_rules | `(tactic| walk_at "sl") => `(tactic| first | exact SlK.tFrom _ _ | exact SlK.tTo _ _ | exact SlK.lFrom _ _ | exact SlK.lTo _ _ | (refine SlK.sFrom _ _ ?_; walk_at "side") | (refine SlK.sTo _ _ ?_; walk_at "side") | (refine SlK.sMid _ _ _ ?_; walk_at "side") | exact SlK.tup _ _ _ | exact SlK.lst _ _ _ | (refine SlK.str ?_; walk_at "side"))
local macro_rules | `(tactic| walk_at "lit") => `(tactic| first | exact ev_strE (y := sL []) (by decide +kernel))
local macro_rules | `(tactic| walk_at "op") => `(tactic| (show OpI _ _ _ _ _ _ _; first | exact op_none | (refine' op_some ?_; (any_goals (walk_at "x")); done)))
local macro_rules | `(tactic| walk_at "blk") => `(tactic| exact blkOk_by (by kernel_rfl))
local macro_rules | `(tactic| walk_at "il") => `(tactic| first
  | (refine' il_tup ?_; (any_goals (walk_at "x")); done)
  | (refine' il_list ?_; (any_goals (walk_at "x")); done)
  | (refine' il_str ?_; (any_goals (walk_at "x")); done))
local macro_rules | `(tactic| walk_at "xs") => `(tactic| (show AV _ _ _ _ _ _ _; first | exact a_nil | (refine' a_cons ?_ ?_; (any_goals (walk_at "x")); (any_goals (walk_at "xs")); done)))
local macro_rules | `(tactic| walk_at "u") => `(tactic| (refine' x_call (by assumption) ?_ ?_ (by assumption); (any_goals (walk_at "xs")); (any_goals (walk_at "ck")); done))
local macro_rules | `(tactic| walk_at "x") => `(tactic| first
  | (show EV _ _ (Expr.Name _ _) _ _ _ _; walk_at "v")
  | (show EV _ _ (Expr.Constant _ _ _) _ _ _ _; first | exact ev_int | exact ev_bl | exact ev_non | walk_at "lit")
  | (show EV _ _ (Expr.BinOp _ Operator.Add _ _) _ _ _ _; refine' x_add ?_ ?_ ?_; (any_goals (walk_at "x")); (any_goals (walk_at "add")); done)
  | (show EV _ _ (Expr.BinOp _ Operator.Sub _ _) _ _ _ _; refine' x_sub ?_ ?_; (any_goals (walk_at "x")); done)
  | (show EV _ _ (Expr.BinOp _ Operator.Mult _ _) _ _ _ _; refine' x_mul ?_ ?_ ?_; (any_goals (walk_at "x")); (any_goals (walk_at "mul")); done)
  | (show EV _ _ (Expr.Call (Expr.Attribute _ "get" _) _ _ _) _ _ _ _; refine' x_get ?_ ?_ ?_ ?_ (by assumption); (any_goals (walk_at "x")); (any_goals (walk_at "get")); done)
  | (show EV _ _ (Expr.Call (Expr.Name "len" _) _ _ _) _ _ _ _; refine' x_len ?_ ?_ (by assumption); (any_goals (walk_at "x")); (any_goals (walk_at "len")); done)
  | (show EV _ _ (Expr.Call (Expr.Name _ _) _ _ _) _ _ _ _; walk_at "u")
  | (show EV _ _ (Expr.Subscript _ (Expr.Slice _ _ _ _) _) _ _ _ _; refine' x_sl ?_ ?_ ?_ ?_; (any_goals (walk_at "x")); (any_goals (walk_at "op")); (any_goals (walk_at "sl")); done)
  | (show EV _ _ (Expr.Subscript _ _ _) _ _ _ _; refine' x_ix ?_ ?_ ?_; (any_goals (walk_at "x")); (any_goals (walk_at "ix")); done)
  | (show EV _ _ (Expr.Tuple _ _ _) _ _ _ _; refine' x_tup ?_; (any_goals (walk_at "xs")); done)
  | (show EV _ _ (Expr.List _ _) _ _ _ _; refine' x_lst ?_; (any_goals (walk_at "xs")); done)
  | (show EV _ _ (Expr.Compare _ [CmpOp.Eq] _ _) _ _ _ _; refine' x_eq ?_ ?_ ?_ (by assumption); (any_goals (walk_at "x")); (any_goals (walk_at "eq")); done)
  | (show EV _ _ (Expr.Compare _ [CmpOp.NotEq] _ _) _ _ _ _; refine' x_ne ?_ ?_ ?_ (by assumption); (any_goals (walk_at "x")); (any_goals (walk_at "eq")); done)
  | (show EV _ _ (Expr.Compare _ [CmpOp.Lt] _ _) _ _ _ _; refine' x_lt ?_ ?_ ?_; (any_goals (walk_at "x")); (any_goals (walk_at "lt")); done)
  | (show EV _ _ (Expr.Compare _ [CmpOp.Gt] _ _) _ _ _ _; refine' x_gt ?_ ?_ ?_; (any_goals (walk_at "x")); (any_goals (walk_at "le")); done)
  | (show EV _ _ (Expr.Compare _ [CmpOp.LtE] _ _) _ _ _ _; refine' x_le ?_ ?_ ?_; (any_goals (walk_at "x")); (any_goals (walk_at "le")); done)
  | (show EV _ _ (Expr.UnaryOp _ _ _) _ _ _ _; refine' ev_not ?_; (any_goals (walk_at "x")); done))
local macro_rules | `(tactic| walk_at "t") => `(tactic| first
  | (show TV _ _ (Expr.Compare _ [CmpOp.Eq] _ _) _ _ _ _; refine' t_eq ?_ ?_ ?_ (by assumption); (any_goals (walk_at "x")); (any_goals (walk_at "eq")); done)
  | (show TV _ _ (Expr.Compare _ [CmpOp.NotEq] _ _) _ _ _ _; refine' t_ne ?_ ?_ ?_ (by assumption); (any_goals (walk_at "x")); (any_goals (walk_at "eq")); done)
  | (show TV _ _ (Expr.Compare _ [CmpOp.Lt] _ _) _ _ _ _; refine' t_lt ?_ ?_ ?_; (any_goals (walk_at "x")); (any_goals (walk_at "lt")); done)
  | (show TV _ _ (Expr.Compare _ [CmpOp.Gt] _ _) _ _ _ _; refine' t_gt ?_ ?_ ?_; (any_goals (walk_at "x")); (any_goals (walk_at "le")); done)
  | (show TV _ _ (Expr.Compare _ [CmpOp.LtE] _ _) _ _ _ _; refine' t_le ?_ ?_ ?_; (any_goals (walk_at "x")); (any_goals (walk_at "le")); done)
  | (show TV _ _ (Expr.Compare _ [CmpOp.Is] _ _) _ _ _ _; refine' t_isN ?_; (any_goals (walk_at "x")); done)
  | (show TV _ _ (Expr.Compare _ [CmpOp.IsNot] _ _) _ _ _ _; refine' t_notN ?_; (any_goals (walk_at "x")); done)
  | (show TV _ _ (Expr.UnaryOp UnaryOp.Not _ _) _ _ _ _; refine' tv_not ?_; (any_goals (walk_at "t")); done)
  | (show TV _ _ _ _ _ _ _; refine' tv_e ?_; (any_goals (walk_at "x")); done))
section
variable {P : Program} {w : World} {K : PySem.W.Frag} {mg : Str → Option Value} {base : Heap}
/-! ### length_after -/
inductive FLenAfter : List PyData → PyData → Prop
  | mk {Ls : List Lay} {t : Tx} {n : Nat} (h : SOk Ls) (hl : Ls.length ≤ 5) (ht : TOk t) (hlt : t.length ≤ 200) (hn : n ≤ 1000) : FLenAfter [stkD Ls, dS t, .int n] (.int ((rn Ls n t).length : Nat))
end
end Fc
end
section
namespace Fc
open PySem PySem.Spec PyProof.Rows L2 Dl
open Evl (Ex)
local macro_rules | `(tactic| walk_at "v") => `(tactic| first | exact ev_v 0 | exact ev_v 1 | exact ev_v 2 | exact ev_v 3 | exact ev_v 4 | exact ev_v 5 | exact ev_v 6 | exact ev_v 7 | exact ev_v 8 | exact ev_v 9 | exact ev_v 10 | exact ev_v 11 | exact ev_v 12 | exact ev_v 13 | exact ev_v 14 | exact ev_v 15 | exact ev_v 16)
local macro_rules | `(tactic| walk_at "side") => `(tactic| first | assumption | rfl | decide | omega | (simp only [List.length_map, List.length_append, List.length_cons, List.length_nil, List.length_singleton] at *; omega))
local macro_rules | `(tactic| walk_at "ck") => `(tactic| (constructor <;> walk_at "side"))
local macro_rules | `(tactic| walk_at "add") => `(tactic| first | exact AddK.nat _ _ | exact AddK.nat1 _ | exact AddK.one _ | exact AddK.int _ _ | (refine AddK.str ?_; walk_at "side") | (refine AddK.lstM ?_; walk_at "side") | (refine AddK.tupM ?_; walk_at "side") | (refine AddK.lst ?_; walk_at "side") | (refine AddK.tup ?_; walk_at "side"))
local macro_rules | `(tactic| walk_at "mul") => `(tactic| first | (refine MulK.nat _ _ ?_; walk_at "side") | (refine MulK.int _ _ ?_; walk_at "side") | (refine MulK.str ?_ ?_ <;> walk_at "side") | (refine MulK.lst ?_ ?_ <;> walk_at "side"))
local macro_rules | `(tactic| walk_at "eq") => `(tactic| first | exact EqK.nat _ _ | exact EqK.int _ _ | exact EqK.str _ _ | exact EqK.bool _ _ | exact EqK.nonS _ | exact EqK.strN _ | exact EqK.intS _ _ | exact EqK.strI _ _ | exact EqK.nonI _ | exact EqK.intN _ | exact EqK.nonN | (refine EqK.gen ?_ ?_ ?_ <;> walk_at "side"))
local macro_rules | `(tactic| walk_at "lt") => `(tactic| first | exact LtK.nat _ _ | exact LtK.int _ _ | exact LtK.str _ _)
local macro_rules | `(tactic| walk_at "le") => `(tactic| first | exact LeK.nat _ _ | exact LeK.int _ _)
local macro_rules | `(tactic| walk_at "len") => `(tactic| first | (refine LenK.str ?_; walk_at "side") | exact LenK.lstM _ | exact LenK.tupM _ | exact LenK.lst _ | exact LenK.tup _)
local macro_rules | `(tactic| walk_at "ix") => `(tactic| first | (refine IxK.lst ?_; first | rfl | assumption) | (refine IxK.tup ?_; first | rfl | assumption) | (refine IxK.lN ?_; first | rfl | assumption) | (refine IxK.tN ?_; first | rfl | assumption) | (refine IxK.sN ?_ ?_ <;> walk_at "side"))
local macro_rules | `(tactic| walk_at "get") => `(tactic| first | exact GetK.mk _ _ _)
local macro_rules | `(tactic| walk_at "sl") => `(tactic| first | exact SlK.tFrom _ _ | exact SlK.tTo _ _ | exact SlK.lFrom _ _ | exact SlK.lTo _ _ | (refine SlK.sFrom _ _ ?_; walk_at "side") | (refine SlK.sTo _ _ ?_; walk_at "side") | (refine SlK.sMid _ _ _ ?_; walk_at "side") | exact SlK.tup _ _ _ | exact SlK.lst _ _ _ | (refine SlK.str ?_; walk_at "side"))
local macro_rules | `(tactic| walk_at "lit") => `(tactic| first | exact ev_strE (y := sL []) (by decide +kernel))
local macro_rules | `(tactic| walk_at "op") => `(tactic| (show OpI _ _ _ _ _ _ _; first | exact op_none | (refine' op_some ?_; (any_goals (walk_at "x")); done)))
local macro_rules | `(tactic| walk_at "blk") => `(tactic| exact blkOk_by (by kernel_rfl))
local macro_rules | `(tactic| walk_at "il") => `(tactic| first
  | (refine' il_tup ?_; (any_goals (walk_at "x")); done)
  | (refine' il_list ?_; (any_goals (walk_at "x")); done)
  | (refine' il_str ?_; (any_goals (walk_at "x")); done))
local macro_rules | `(tactic| walk_at "xs") => `(tactic| (show AV _ _ _ _ _ _ _; first | exact a_nil | (refine' a_cons ?_ ?_; (any_goals (walk_at "x")); (any_goals (walk_at "xs")); done)))
local macro_rules | `(tactic| walk_at "u") => `(tactic| (refine' x_call (by assumption) ?_ ?_ (by assumption); (any_goals (walk_at "xs")); (any_goals (walk_at "ck")); done))
local macro_rules | `(tactic| walk_at "x") => `(tactic| first
  | (show EV _ _ (Expr.Name _ _) _ _ _ _; walk_at "v")
  | (show EV _ _ (Expr.Constant _ _ _) _ _ _ _; first | exact ev_int | exact ev_bl | exact ev_non | walk_at "lit")
  | (show EV _ _ (Expr.BinOp _ Operator.Add _ _) _ _ _ _; refine' x_add ?_ ?_ ?_; (any_goals (walk_at "x")); (any_goals (walk_at "add")); done)
  | (show EV _ _ (Expr.BinOp _ Operator.Sub _ _) _ _ _ _; refine' x_sub ?_ ?_; (any_goals (walk_at "x")); done)
  | (show EV _ _ (Expr.BinOp _ Operator.Mult _ _) _ _ _ _; refine' x_mul ?_ ?_ ?_; (any_goals (walk_at "x")); (any_goals (walk_at "mul")); done)
  | (show EV _ _ (Expr.Call (Expr.Attribute _ "get" _) _ _ _) _ _ _ _; refine' x_get ?_ ?_ ?_ ?_ (by assumption); (any_goals (walk_at "x")); (any_goals (walk_at "get")); done)
  | (show EV _ _ (Expr.Call (Expr.Name "len" _) _ _ _) _ _ _ _; refine' x_len ?_ ?_ (by assumption); (any_goals (walk_at "x")); (any_goals (walk_at "len")); done)
  | (show EV _ _ (Expr.Call (Expr.Name _ _) _ _ _) _ _ _ _; walk_at "u")
  | (show EV _ _ (Expr.Subscript _ (Expr.Slice _ _ _ _) _) _ _ _ _; refine' x_sl ?_ ?_ ?_ ?_; (any_goals (walk_at "x")); (any_goals (walk_at "op")); (any_goals (walk_at "sl")); done)
  | (show EV _ _ (Expr.Subscript _ _ _) _ _ _ _; refine' x_ix ?_ ?_ ?_; (any_goals (walk_at "x")); (any_goals (walk_at "ix")); done)
  | (show EV _ _ (Expr.Tuple _ _ _) _ _ _ _; refine' x_tup ?_; (any_goals (walk_at "xs")); done)
  | (show EV _ _ (Expr.List _ _) _ _ _ _; refine' x_lst ?_; (any_goals (walk_at "xs")); done)
  | (show EV _ _ (Expr.Compare _ [CmpOp.Eq] _ _) _ _ _ _; refine' x_eq ?_ ?_ ?_ (by assumption); (any_goals (walk_at "x")); (any_goals (walk_at "eq")); done)
  | (show EV _ _ (Expr.Compare _ [CmpOp.NotEq] _ _) _ _ _ _; refine' x_ne ?_ ?_ ?_ (by assumption); (any_goals (walk_at "x")); (any_goals (walk_at "eq")); done)
  | (show EV _ _ (Expr.Compare _ [CmpOp.Lt] _ _) _ _ _ _; refine' x_lt ?_ ?_ ?_; (any_goals (walk_at "x")); (any_goals (walk_at "lt")); done)
  | (show EV _ _ (Expr.Compare _ [CmpOp.Gt] _ _) _ _ _ _; refine' x_gt ?_ ?_ ?_; (any_goals (walk_at "x")); (any_goals (walk_at "le")); done)
  | (show EV _ _ (Expr.Compare _ [CmpOp.LtE] _ _) _ _ _ _; refine' x_le ?_ ?_ ?_; (any_goals (walk_at "x")); (any_goals (walk_at "le")); done)
  | (show EV _ _ (Expr.UnaryOp _ _ _) _ _ _ _; refine' ev_not ?_; (any_goals (walk_at "x")); done))
local macro_rules | `(tactic| walk_at "t") => `(tactic| first
  | (show TV _ _ (Expr.Compare _ [CmpOp.Eq] _ _) _ _ _ _; refine' t_eq ?_ ?_ ?_ (by assumption); (any_goals (walk_at "x")); (any_goals (walk_at "eq")); done)
  | (show TV _ _ (Expr.Compare _ [CmpOp.NotEq] _ _) _ _ _ _; refine' t_ne ?_ ?_ ?_ (by assumption); (any_goals (walk_at "x")); (any_goals (walk_at "eq")); done)
  | (show TV _ _ (Expr.Compare _ [CmpOp.Lt] _ _) _ _ _ _; refine' t_lt ?_ ?_ ?_; (any_goals (walk_at "x")); (any_goals (walk_at "lt")); done)
  | (show TV _ _ (Expr.Compare _ [CmpOp.Gt] _ _) _ _ _ _; refine' t_gt ?_ ?_ ?_; (any_goals (walk_at "x")); (any_goals (walk_at "le")); done)
  | (show TV _ _ (Expr.Compare _ [CmpOp.LtE] _ _) _ _ _ _; refine' t_le ?_ ?_ ?_; (any_goals (walk_at "x")); (any_goals (walk_at "le")); done)
  | (show TV _ _ (Expr.Compare _ [CmpOp.Is] _ _) _ _ _ _; refine' t_isN ?_; (any_goals (walk_at "x")); done)
  | (show TV _ _ (Expr.Compare _ [CmpOp.IsNot] _ _) _ _ _ _; refine' t_notN ?_; (any_goals (walk_at "x")); done)
  | (show TV _ _ (Expr.UnaryOp UnaryOp.Not _ _) _ _ _ _; refine' tv_not ?_; (any_goals (walk_at "t")); done)
  | (show TV _ _ _ _ _ _ _; refine' tv_e ?_; (any_goals (walk_at "x")); done))
section
variable {P : Program} {w : World} {K : PySem.W.Frag} {mg : Str → Option Value} {base : Heap}
inductive FTableOf : List PyData → PyData → Prop
  | mk {Ls : List Lay} (h : SOk Ls) (hl : Ls.length ≤ 6) : FTableOf [stkD Ls] (layD (tab Ls))
theorem c_table_of (D : Dfn K mg "table_of" s_table_of) (b : Bn mg) (c1 : Cal P w K mg base "results" 3 ["stack"] (PF FResults)) : Cal P w K mg base "table_of" 4 ["stack"] (PF FTableOf) := by
  refine cal_pf D sc_table_of (fun _ _ _ _ _ _ us hl => match us, hl with | [_], _ => rfl) (fun _ _ h => by cases h; rfl) ?_
  rintro f cdv A outer s H E R ds d hr hF
  have nd := sc_table_of.nd
  cases hF with | @mk Ls h hl
  have hlen := res_len h
  refine sj_ret (ev_tupOf (ds := (tab Ls).map pairD) (x_sortD (ds := (tab Ls).map pairD) (x_lc (lj_filtL2 1 2 (xs := res Ls) (d1 := fun z => dS [z.1]) (d2 := fun z => dS z.2) (t := fun q => !decide (q.2 = [q.1])) (f := pairD) (il_itemsM (x_call c1 (a_cons (ev_v 0) a_nil) (fres h hl) hr)) (fun z => .inl rfl) (by omega) (by walk_at "blk") nd (fun z hz s H C cl fp => ?_) (fun z hz _ s H C cl fp => ?_)) nd) (nods_lay _) (al_lay _) (so_lay _) (fun d hd => ?_) (sort_lay (tab_ord Ls)) b hr) (.inl rfl) b.tuple) rfl
  · walk_at "t"
  · walk_at "x"
  · obtain ⟨q, _, rfl⟩ := List.mem_map.mp hd
    exact dep_pair q
inductive FTable : List PyData → PyData → Prop
  | mk {Ls : List Lay} (h : SOk Ls) (hl : Ls.length ≤ 5) : FTable [stkD Ls] (layD (tab Ls))
theorem c_table (D : Dfn K mg "table" s_table) (c1 : Cal P w K mg base "need_stack" 5 ["value"] (PF FNeedS)) (c2 : Cal P w K mg base "table_of" 4 ["stack"] (PF FTableOf)) : Cal P w K mg base "table" 6 ["stack"] (PF FTable) := by
  refine cal_pf D sc_table (fun _ _ _ _ _ _ us hl => match us, hl with | [_], _ => rfl) (fun _ _ h => by cases h; rfl) ?_
  rintro f cdv A outer s H E R ds d hr hF
  cases hF with | @mk Ls h hl
  refine sj_expr (x_call c1 (a_cons (ev_v 0) a_nil) (.mk h hl) hr) ?_
  exact sj_ret (x_call c2 (a_cons (ev_v 0) a_nil) (.mk h (by omega)) hr) rfl
inductive FSame : List PyData → PyData → Prop
  | mk {Ls Ms : List Lay} (h : SOk Ls) (hl : Ls.length ≤ 5) (g : SOk Ms) (gl : Ms.length ≤ 5) : FSame [stkD Ls, stkD Ms] (.bool (decide (tab Ls = tab Ms)))
theorem c_same (D : Dfn K mg "same" s_same) (c1 : Cal P w K mg base "need_stack" 5 ["value"] (PF FNeedS)) (c2 : Cal P w K mg base "table_of" 4 ["stack"] (PF FTableOf)) : Cal P w K mg base "same" 6 ["first", "second"] (PF FSame) := by
  refine cal_pf D sc_same (fun _ _ _ _ _ _ us hl => match us, hl with | [_, _], _ => rfl) (fun _ _ h => by cases h; rfl) ?_
  rintro f cdv A outer s H E R ds d hr hF
  cases hF with | @mk Ls Ms h hl g gl
  refine sj_expr (x_call c1 (a_cons (ev_v 0) a_nil) (.mk h hl) hr) ?_
  refine sj_expr (x_call c1 (a_cons (ev_v 1) a_nil) (.mk g gl) hr) ?_
  exact sj_ret (x_eq (x_call c2 (a_cons (ev_v 0) a_nil) (.mk h (by omega)) hr) (x_call c2 (a_cons (ev_v 1) a_nil) (.mk g (by omega)) hr) (.gen (pl_tab h (by omega)) (pl_tab g (by omega)) (eqv_lay _ _)) hr) rfl
end
end Fc
end
section
namespace Fc
open PySem PySem.Spec PyProof.Rows L2 Dl
open Evl (Ex)
local macro_rules | `(tactic| walk_at "v") => `(tactic| first | exact ev_v 0 | exact ev_v 1 | exact ev_v 2 | exact ev_v 3 | exact ev_v 4 | exact ev_v 5 | exact ev_v 6 | exact ev_v 7 | exact ev_v 8 | exact ev_v 9 | exact ev_v 10 | exact ev_v 11 | exact ev_v 12 | exact ev_v 13 | exact ev_v 14 | exact ev_v 15 | exact ev_v 16)
local macro_rules | `(tactic| walk_at "side") => `(tactic| first | assumption | rfl | decide | omega | (simp only [List.length_map, List.length_append, List.length_cons, List.length_nil, List.length_singleton] at *; omega))
local macro_rules | `(tactic| walk_at "ck") => `(tactic| (constructor <;> walk_at "side"))
local macro_rules | `(tactic| walk_at "add") => `(tactic| first | exact AddK.nat _ _ | exact AddK.nat1 _ | exact AddK.one _ | exact AddK.int _ _ | (refine AddK.str ?_; walk_at "side") | (refine AddK.lstM ?_; walk_at "side") | (refine AddK.tupM ?_; walk_at "side") | (refine AddK.lst ?_; walk_at "side") | (refine AddK.tup ?_; walk_at "side"))
local macro_rules | `(tactic| walk_at "mul") => `(tactic| first | (refine MulK.nat _ _ ?_; walk_at "side") | (refine MulK.int _ _ ?_; walk_at "side") | (refine MulK.str ?_ ?_ <;> walk_at "side") | (refine MulK.lst ?_ ?_ <;> walk_at "side"))
local macro_rules | `(tactic| walk_at "eq") => `(tactic| first | exact EqK.nat _ _ | exact EqK.int _ _ | exact EqK.str _ _ | exact EqK.bool _ _ | exact EqK.nonS _ | exact EqK.strN _ | exact EqK.intS _ _ | exact EqK.strI _ _ | exact EqK.nonI _ | exact EqK.intN _ | exact EqK.nonN | (refine EqK.gen ?_ ?_ ?_ <;> walk_at "side"))
local macro_rules | `(tactic| walk_at "lt") => `(tactic| first | exact LtK.nat _ _ | exact LtK.int _ _ | exact LtK.str _ _)
local macro_rules | `(tactic| walk_at "le") => `(tactic| first | exact LeK.nat _ _ | exact LeK.int _ _)
local macro_rules | `(tactic| walk_at "len") => `(tactic| first | (refine LenK.str ?_; walk_at "side") | exact LenK.lstM _ | exact LenK.tupM _ | exact LenK.lst _ | exact LenK.tup _)
local macro_rules | `(tactic| walk_at "ix") => `(tactic| first | (refine IxK.lst ?_; first | rfl | assumption) | (refine IxK.tup ?_; first | rfl | assumption) | (refine IxK.lN ?_; first | rfl | assumption) | (refine IxK.tN ?_; first | rfl | assumption) | (refine IxK.sN ?_ ?_ <;> walk_at "side"))
local macro_rules | `(tactic| walk_at "get") => `(tactic| first | exact GetK.mk _ _ _)
local macro_rules | `(tactic| walk_at "sl") => `(tactic| first | exact SlK.tFrom _ _ | exact SlK.tTo _ _ | exact SlK.lFrom _ _ | exact SlK.lTo _ _ | (refine SlK.sFrom _ _ ?_; walk_at "side") | (refine SlK.sTo _ _ ?_; walk_at "side") | (refine SlK.sMid _ _ _ ?_; walk_at "side") | exact SlK.tup _ _ _ | exact SlK.lst _ _ _ | (refine SlK.str ?_; walk_at "side"))
local macro_rules | `(tactic| walk_at "lit") => `(tactic| first | exact ev_strE (y := sL []) (by decide +kernel))
local macro_rules | `(tactic| walk_at "op") => `(tactic| (show OpI _ _ _ _ _ _ _; first | exact op_none | (refine' op_some ?_; (any_goals (walk_at "x")); done)))
local macro_rules | `(tactic| walk_at "blk") => `(tactic| exact blkOk_by (by kernel_rfl))
local macro_rules | `(tactic| walk_at "il") => `(tactic| first
  | (refine' il_tup ?_; (any_goals (walk_at "x")); done)
  | (refine' il_list ?_; (any_goals (walk_at "x")); done)
  | (refine' il_str ?_; (any_goals (walk_at "x")); done))
local macro_rules | `(tactic| walk_at "xs") => `(tactic| (show AV _ _ _ _ _ _ _; first | exact a_nil | (refine' a_cons ?_ ?_; (any_goals (walk_at "x")); (any_goals (walk_at "xs")); done)))
local macro_rules | `(tactic| walk_at "u") => `(tactic| (refine' x_call (by assumption) ?_ ?_ (by assumption); (any_goals (walk_at "xs")); (any_goals (walk_at "ck")); done))
local macro_rules | `(tactic| walk_at "x") => `(tactic| first
  | (show EV _ _ (Expr.Name _ _) _ _ _ _; walk_at "v")
  | (show EV _ _ (Expr.Constant _ _ _) _ _ _ _; first | exact ev_int | exact ev_bl | exact ev_non | walk_at "lit")
  | (show EV _ _ (Expr.BinOp _ Operator.Add _ _) _ _ _ _; refine' x_add ?_ ?_ ?_; (any_goals (walk_at "x")); (any_goals (walk_at "add")); done)
  | (show EV _ _ (Expr.BinOp _ Operator.Sub _ _) _ _ _ _; refine' x_sub ?_ ?_; (any_goals (walk_at "x")); done)
  | (show EV _ _ (Expr.BinOp _ Operator.Mult _ _) _ _ _ _; refine' x_mul ?_ ?_ ?_; (any_goals (walk_at "x")); (any_goals (walk_at "mul")); done)
  | (show EV _ _ (Expr.Call (Expr.Attribute _ "get" _) _ _ _) _ _ _ _; refine' x_get ?_ ?_ ?_ ?_ (by assumption); (any_goals (walk_at "x")); (any_goals (walk_at "get")); done)
  | (show EV _ _ (Expr.Call (Expr.Name "len" _) _ _ _) _ _ _ _; refine' x_len ?_ ?_ (by assumption); (any_goals (walk_at "x")); (any_goals (walk_at "len")); done)
  | (show EV _ _ (Expr.Call (Expr.Name _ _) _ _ _) _ _ _ _; walk_at "u")
  | (show EV _ _ (Expr.Subscript _ (Expr.Slice _ _ _ _) _) _ _ _ _; refine' x_sl ?_ ?_ ?_ ?_; (any_goals (walk_at "x")); (any_goals (walk_at "op")); (any_goals (walk_at "sl")); done)
  | (show EV _ _ (Expr.Subscript _ _ _) _ _ _ _; refine' x_ix ?_ ?_ ?_; (any_goals (walk_at "x")); (any_goals (walk_at "ix")); done)
  | (show EV _ _ (Expr.Tuple _ _ _) _ _ _ _; refine' x_tup ?_; (any_goals (walk_at "xs")); done)
  | (show EV _ _ (Expr.List _ _) _ _ _ _; refine' x_lst ?_; (any_goals (walk_at "xs")); done)
  | (show EV _ _ (Expr.Compare _ [CmpOp.Eq] _ _) _ _ _ _; refine' x_eq ?_ ?_ ?_ (by assumption); (any_goals (walk_at "x")); (any_goals (walk_at "eq")); done)
  | (show EV _ _ (Expr.Compare _ [CmpOp.NotEq] _ _) _ _ _ _; refine' x_ne ?_ ?_ ?_ (by assumption); (any_goals (walk_at "x")); (any_goals (walk_at "eq")); done)
  | (show EV _ _ (Expr.Compare _ [CmpOp.Lt] _ _) _ _ _ _; refine' x_lt ?_ ?_ ?_; (any_goals (walk_at "x")); (any_goals (walk_at "lt")); done)
  | (show EV _ _ (Expr.Compare _ [CmpOp.Gt] _ _) _ _ _ _; refine' x_gt ?_ ?_ ?_; (any_goals (walk_at "x")); (any_goals (walk_at "le")); done)
  | (show EV _ _ (Expr.Compare _ [CmpOp.LtE] _ _) _ _ _ _; refine' x_le ?_ ?_ ?_; (any_goals (walk_at "x")); (any_goals (walk_at "le")); done)
  | (show EV _ _ (Expr.UnaryOp _ _ _) _ _ _ _; refine' ev_not ?_; (any_goals (walk_at "x")); done))
local macro_rules | `(tactic| walk_at "t") => `(tactic| first
  | (show TV _ _ (Expr.Compare _ [CmpOp.Eq] _ _) _ _ _ _; refine' t_eq ?_ ?_ ?_ (by assumption); (any_goals (walk_at "x")); (any_goals (walk_at "eq")); done)
  | (show TV _ _ (Expr.Compare _ [CmpOp.NotEq] _ _) _ _ _ _; refine' t_ne ?_ ?_ ?_ (by assumption); (any_goals (walk_at "x")); (any_goals (walk_at "eq")); done)
  | (show TV _ _ (Expr.Compare _ [CmpOp.Lt] _ _) _ _ _ _; refine' t_lt ?_ ?_ ?_; (any_goals (walk_at "x")); (any_goals (walk_at "lt")); done)
  | (show TV _ _ (Expr.Compare _ [CmpOp.Gt] _ _) _ _ _ _; refine' t_gt ?_ ?_ ?_; (any_goals (walk_at "x")); (any_goals (walk_at "le")); done)
  | (show TV _ _ (Expr.Compare _ [CmpOp.LtE] _ _) _ _ _ _; refine' t_le ?_ ?_ ?_; (any_goals (walk_at "x")); (any_goals (walk_at "le")); done)
  | (show TV _ _ (Expr.Compare _ [CmpOp.Is] _ _) _ _ _ _; refine' t_isN ?_; (any_goals (walk_at "x")); done)
  | (show TV _ _ (Expr.Compare _ [CmpOp.IsNot] _ _) _ _ _ _; refine' t_notN ?_; (any_goals (walk_at "x")); done)
  | (show TV _ _ (Expr.UnaryOp UnaryOp.Not _ _) _ _ _ _; refine' tv_not ?_; (any_goals (walk_at "t")); done)
  | (show TV _ _ _ _ _ _ _; refine' tv_e ?_; (any_goals (walk_at "x")); done))
theorem en_sortSetD {X : Cx} {R : Addr → Prop} {e : Expr} {ss : List Kd} {O O1 : Store} {l : List Nat} {x y : Str} {p p2 pos pos2 : Pos} (ha : EV X R e ss O (.dat (dS l)) O1) (U : List Nat) (hU : ∀ c ∈ l, c ∈ U) (hl : U.length ≤ 4000) (B : Bn X.mg) (hc : X.calm = true := by rfl) (hx : x = "sorted" := by rfl) (hy : y = "set" := by rfl) (hg : Gl X x := by rfl) (hg2 : Gl X y := by rfl)
    (he : starEach [e] X.env = (false, eval e X.env) :: starEach [] X.env := by exact star_ne rfl) (he2 : starEach [.Call (.Name y p2) [e] [] pos2] X.env = (false, eval (.Call (.Name y p2) [e] [] pos2) X.env) :: starEach [] X.env := by exact star_ne rfl) :
    EN X R (.Call (.Name x p) [.Call (.Name y p2) [e] [] pos2] [] pos) ss O (.ol ((dsg l).map fun c => dS [c])) O1 := by
  have h := en_sortTx (pos := pos) (p := p) (ej_setS (pos := pos2) (p := p2) ha U hU hl hc B.set hy hg2 he) hc B.sorted hx hg he2
  rw [setT_one, List.map_map] at h
  exact h
/-! ### reached -/
inductive Rch (T : Lay) (t : Tx) : Nat → Prop
  | base {c : Nat} (h : c ∈ t) : Rch T t c
  | step {c x : Nat} (h : Rch T t c) (hx : x ∈ w1 T c) : Rch T t x
/-- few signs hold all that can be reached -/
structure FewS (T : Lay) (t : Tx) (U : List Nat) : Prop where
  few : U.length < 64
  sg : ∀ c ∈ U, c ∈ SGN
  cl : ∀ c ∈ U, ∀ x ∈ w1 T c, x ∈ U
  tx : ∀ c ∈ t, c ∈ U
theorem FewS.rch {T : Lay} {t : Tx} {U : List Nat} (h : FewS T t U) {c : Nat} (r : Rch T t c) : c ∈ U := by
  induction r with
  | base hc => exact h.tx _ hc
  | step _ hx ih => exact h.cl _ ih _ hx
noncomputable def rch (T : Lay) (t : Tx) (U : List Nat) : List Nat := (dsg U).filter fun c => @decide (Rch T t c) (Classical.propDecidable _)
theorem rch_mem {T : Lay} {t : Tx} {U : List Nat} (h : FewS T t U) {c : Nat} : c ∈ rch T t U ↔ Rch T t c := by
  unfold rch
  rw [List.mem_filter, dsg_mem]
  exact ⟨fun h => @of_decide_eq_true _ (Classical.propDecidable _) h.2, fun r => ⟨h.rch r, @decide_eq_true _ (Classical.propDecidable _) r⟩⟩
theorem rch_sorted (T : Lay) (t : Tx) (U : List Nat) : (rch T t U).Pairwise (· < ·) := (dsg_sorted U).filter _
theorem rch_len (T : Lay) (t : Tx) (U : List Nat) : (rch T t U).length ≤ U.length := Nat.le_trans (List.length_filter_le _ _) (dsg_len U)
abbrev sgD (l : List Nat) : PyData := .list (l.map fun c => dS [c])
inductive FReached : List PyData → PyData → Prop
  | mk {T : Lay} {t : Tx} {U : List Nat} (h : FewS T t U) : FReached [dK (tKv T), dS t] (sgD (rch T t U))
def seenT (l : List Nat) : List (Str × PyData) := l.map fun c => (sL [c], .bool true)
theorem get_seen (l : List Nat) (c : Nat) : (getT (seenT l) (sL [c])).isSome = decide (c ∈ l) := by
  induction l with
  | nil => rfl
  | cons a l ih =>
    unfold getT seenT at *
    rw [List.map_cons, List.find?_cons]
    by_cases h : a = c
    · simp [h]
    · have h2 : ¬ sL [a] = sL [c] := fun e => h (sL1_inj.mp e)
      have h3 : ¬ c = a := fun e => h e.symm
      simp only [decide_eq_false h2, List.mem_cons, h3, false_or]
      exact ih
theorem put_seen {l : List Nat} {c : Nat} (h : c ∉ l) : putT (seenT l) (sL [c]) (.bool true) = seenT (l ++ [c]) := by
  rw [putT_new fun q hq e => by
    obtain ⟨a, ha, rfl⟩ := List.mem_map.mp hq
    exact h (sL1_inj.mp e ▸ ha)]
  unfold seenT
  rw [List.map_append]
  rfl
theorem pl_sgs {l : List Nat} (hl : l.length ≤ 5000) (h : ∀ c ∈ l, c ∈ SGN) : pl (sgD l) = true := by
  have := pl_txs (us := l.map fun c => [c]) (n := 5000) (by rw [List.length_map]; exact hl) fun u hu => by
    obtain ⟨c, hc, rfl⟩ := List.mem_map.mp hu
    exact ⟨fun x hx => by rw [List.mem_singleton.mp hx]; exact h c hc, by simp⟩
  rw [List.map_map] at this
  exact this
section
variable {P : Program} {w : World} {K : PySem.W.Frag} {mg : Str → Option Value} {base : Heap}
end
end Fc
end
section
namespace Fc
open PySem PySem.Spec PyProof.Rows L2 Dl
open Evl (Ex)
local macro_rules | `(tactic| walk_at "v") => `(tactic| first | exact ev_v 0 | exact ev_v 1 | exact ev_v 2 | exact ev_v 3 | exact ev_v 4 | exact ev_v 5 | exact ev_v 6 | exact ev_v 7 | exact ev_v 8 | exact ev_v 9 | exact ev_v 10 | exact ev_v 11 | exact ev_v 12 | exact ev_v 13 | exact ev_v 14 | exact ev_v 15 | exact ev_v 16)
local macro_rules | `(tactic| walk_at "side") => `(tactic| first | assumption | rfl | decide | omega | (simp only [List.length_map, List.length_append, List.length_cons, List.length_nil, List.length_singleton] at *; omega))
local macro_rules | `(tactic| walk_at "ck") => `(tactic| (constructor <;> walk_at "side"))
local macro_rules | `(tactic| walk_at "add") => `(tactic| first | exact AddK.nat _ _ | exact AddK.nat1 _ | exact AddK.one _ | exact AddK.int _ _ | (refine AddK.str ?_; walk_at "side") | (refine AddK.lstM ?_; walk_at "side") | (refine AddK.tupM ?_; walk_at "side") | (refine AddK.lst ?_; walk_at "side") | (refine AddK.tup ?_; walk_at "side"))
local macro_rules | `(tactic| walk_at "mul") => `(tactic| first | (refine MulK.nat _ _ ?_; walk_at "side") | (refine MulK.int _ _ ?_; walk_at "side") | (refine MulK.str ?_ ?_ <;> walk_at "side") | (refine MulK.lst ?_ ?_ <;> walk_at "side"))
local macro_rules | `(tactic| walk_at "eq") => `(tactic| first | exact EqK.nat _ _ | exact EqK.int _ _ | exact EqK.str _ _ | exact EqK.bool _ _ | exact EqK.nonS _ | exact EqK.strN _ | exact EqK.intS _ _ | exact EqK.strI _ _ | exact EqK.nonI _ | exact EqK.intN _ | exact EqK.nonN | (refine EqK.gen ?_ ?_ ?_ <;> walk_at "side"))
local macro_rules | `(tactic| walk_at "lt") => `(tactic| first | exact LtK.nat _ _ | exact LtK.int _ _ | exact LtK.str _ _)
local macro_rules | `(tactic| walk_at "le") => `(tactic| first | exact LeK.nat _ _ | exact LeK.int _ _)
local macro_rules | `(tactic| walk_at "len") => `(tactic| first | (refine LenK.str ?_; walk_at "side") | exact LenK.lstM _ | exact LenK.tupM _ | exact LenK.lst _ | exact LenK.tup _)
local macro_rules | `(tactic| walk_at "ix") => `(tactic| first | (refine IxK.lst ?_; first | rfl | assumption) | (refine IxK.tup ?_; first | rfl | assumption) | (refine IxK.lN ?_; first | rfl | assumption) | (refine IxK.tN ?_; first | rfl | assumption) | (refine IxK.sN ?_ ?_ <;> walk_at "side"))
local macro_rules | `(tactic| walk_at "get") => `(tactic| first | exact GetK.mk _ _ _)
local macro_rules | `(tactic| walk_at "sl") => `(tactic| first | exact SlK.tFrom _ _ | exact SlK.tTo _ _ | exact SlK.lFrom _ _ | exact SlK.lTo _ _ | (refine SlK.sFrom _ _ ?_; walk_at "side") | (refine SlK.sTo _ _ ?_; walk_at "side") | (refine SlK.sMid _ _ _ ?_; walk_at "side") | exact SlK.tup _ _ _ | exact SlK.lst _ _ _ | (refine SlK.str ?_; walk_at "side"))
local macro_rules | `(tactic| walk_at "lit") => `(tactic| first | exact ev_strE (y := sL []) (by decide +kernel))
local macro_rules | `(tactic| walk_at "op") => `(tactic| (show OpI _ _ _ _ _ _ _; first | exact op_none | (refine' op_some ?_; (any_goals (walk_at "x")); done)))
local macro_rules | `(tactic| walk_at "blk") => `(tactic| exact blkOk_by (by kernel_rfl))
local macro_rules | `(tactic| walk_at "il") => `(tactic| first
  | (refine' il_tup ?_; (any_goals (walk_at "x")); done)
  | (refine' il_list ?_; (any_goals (walk_at "x")); done)
  | (refine' il_str ?_; (any_goals (walk_at "x")); done))
local macro_rules | `(tactic| walk_at "xs") => `(tactic| (show AV _ _ _ _ _ _ _; first | exact a_nil | (refine' a_cons ?_ ?_; (any_goals (walk_at "x")); (any_goals (walk_at "xs")); done)))
local macro_rules | `(tactic| walk_at "u") => `(tactic| (refine' x_call (by assumption) ?_ ?_ (by assumption); (any_goals (walk_at "xs")); (any_goals (walk_at "ck")); done))
local macro_rules | `(tactic| walk_at "x") => `(tactic| first
  | (show EV _ _ (Expr.Name _ _) _ _ _ _; walk_at "v")
  | (show EV _ _ (Expr.Constant _ _ _) _ _ _ _; first | exact ev_int | exact ev_bl | exact ev_non | walk_at "lit")
  | (show EV _ _ (Expr.BinOp _ Operator.Add _ _) _ _ _ _; refine' x_add ?_ ?_ ?_; (any_goals (walk_at "x")); (any_goals (walk_at "add")); done)
  | (show EV _ _ (Expr.BinOp _ Operator.Sub _ _) _ _ _ _; refine' x_sub ?_ ?_; (any_goals (walk_at "x")); done)
  | (show EV _ _ (Expr.BinOp _ Operator.Mult _ _) _ _ _ _; refine' x_mul ?_ ?_ ?_; (any_goals (walk_at "x")); (any_goals (walk_at "mul")); done)
  | (show EV _ _ (Expr.Call (Expr.Attribute _ "get" _) _ _ _) _ _ _ _; refine' x_get ?_ ?_ ?_ ?_ (by assumption); (any_goals (walk_at "x")); (any_goals (walk_at "get")); done)
  | (show EV _ _ (Expr.Call (Expr.Name "len" _) _ _ _) _ _ _ _; refine' x_len ?_ ?_ (by assumption); (any_goals (walk_at "x")); (any_goals (walk_at "len")); done)
  | (show EV _ _ (Expr.Call (Expr.Name _ _) _ _ _) _ _ _ _; walk_at "u")
  | (show EV _ _ (Expr.Subscript _ (Expr.Slice _ _ _ _) _) _ _ _ _; refine' x_sl ?_ ?_ ?_ ?_; (any_goals (walk_at "x")); (any_goals (walk_at "op")); (any_goals (walk_at "sl")); done)
  | (show EV _ _ (Expr.Subscript _ _ _) _ _ _ _; refine' x_ix ?_ ?_ ?_; (any_goals (walk_at "x")); (any_goals (walk_at "ix")); done)
  | (show EV _ _ (Expr.Tuple _ _ _) _ _ _ _; refine' x_tup ?_; (any_goals (walk_at "xs")); done)
  | (show EV _ _ (Expr.List _ _) _ _ _ _; refine' x_lst ?_; (any_goals (walk_at "xs")); done)
  | (show EV _ _ (Expr.Compare _ [CmpOp.Eq] _ _) _ _ _ _; refine' x_eq ?_ ?_ ?_ (by assumption); (any_goals (walk_at "x")); (any_goals (walk_at "eq")); done)
  | (show EV _ _ (Expr.Compare _ [CmpOp.NotEq] _ _) _ _ _ _; refine' x_ne ?_ ?_ ?_ (by assumption); (any_goals (walk_at "x")); (any_goals (walk_at "eq")); done)
  | (show EV _ _ (Expr.Compare _ [CmpOp.Lt] _ _) _ _ _ _; refine' x_lt ?_ ?_ ?_; (any_goals (walk_at "x")); (any_goals (walk_at "lt")); done)
  | (show EV _ _ (Expr.Compare _ [CmpOp.Gt] _ _) _ _ _ _; refine' x_gt ?_ ?_ ?_; (any_goals (walk_at "x")); (any_goals (walk_at "le")); done)
  | (show EV _ _ (Expr.Compare _ [CmpOp.LtE] _ _) _ _ _ _; refine' x_le ?_ ?_ ?_; (any_goals (walk_at "x")); (any_goals (walk_at "le")); done)
  | (show EV _ _ (Expr.UnaryOp _ _ _) _ _ _ _; refine' ev_not ?_; (any_goals (walk_at "x")); done))
local macro_rules | `(tactic| walk_at "t") => `(tactic| first
  | (show TV _ _ (Expr.Compare _ [CmpOp.Eq] _ _) _ _ _ _; refine' t_eq ?_ ?_ ?_ (by assumption); (any_goals (walk_at "x")); (any_goals (walk_at "eq")); done)
  | (show TV _ _ (Expr.Compare _ [CmpOp.NotEq] _ _) _ _ _ _; refine' t_ne ?_ ?_ ?_ (by assumption); (any_goals (walk_at "x")); (any_goals (walk_at "eq")); done)
  | (show TV _ _ (Expr.Compare _ [CmpOp.Lt] _ _) _ _ _ _; refine' t_lt ?_ ?_ ?_; (any_goals (walk_at "x")); (any_goals (walk_at "lt")); done)
  | (show TV _ _ (Expr.Compare _ [CmpOp.Gt] _ _) _ _ _ _; refine' t_gt ?_ ?_ ?_; (any_goals (walk_at "x")); (any_goals (walk_at "le")); done)
  | (show TV _ _ (Expr.Compare _ [CmpOp.LtE] _ _) _ _ _ _; refine' t_le ?_ ?_ ?_; (any_goals (walk_at "x")); (any_goals (walk_at "le")); done)
  | (show TV _ _ (Expr.Compare _ [CmpOp.Is] _ _) _ _ _ _; refine' t_isN ?_; (any_goals (walk_at "x")); done)
  | (show TV _ _ (Expr.Compare _ [CmpOp.IsNot] _ _) _ _ _ _; refine' t_notN ?_; (any_goals (walk_at "x")); done)
  | (show TV _ _ (Expr.UnaryOp UnaryOp.Not _ _) _ _ _ _; refine' tv_not ?_; (any_goals (walk_at "t")); done)
  | (show TV _ _ _ _ _ _ _; refine' tv_e ?_; (any_goals (walk_at "x")); done))
structure FewT (T : Lay) (U : List Nat) : Prop where
  few : U.length < 64
  sg : ∀ c ∈ U, c ∈ SGN
  cl : ∀ c ∈ U, ∀ x ∈ w1 T c, x ∈ U
theorem FewT.s {T : Lay} {U : List Nat} (h : FewT T U) {t : Tx} (ht : ∀ c ∈ t, c ∈ U) : FewS T t U := ⟨h.few, h.sg, h.cl, ht⟩
theorem FewT.one {T : Lay} {U : List Nat} (h : FewT T U) {c : Nat} (hc : c ∈ U) : FewS T [c] U := h.s fun x hx => by rw [List.mem_singleton.mp hx]; exact hc
theorem FewT.w {T : Lay} {U : List Nat} (h : FewT T U) {c : Nat} (hc : c ∈ U) : FewS T (w1 T c) U := h.s (h.cl c hc)
/-- on a cycle; how often a sign's result leads back -/
noncomputable def onc (T : Lay) (U : List Nat) (c : Nat) : Bool := decide (c ∈ rch T (w1 T c) U)
noncomputable def rtn (T : Lay) (U : List Nat) (c : Nat) : List Nat := (w1 T c).filter fun x => decide (c ∈ rch T [x] U)
theorem pl_one {c : Nat} (h : c ∈ SGN) : pl (dS [c]) = true := ok_pl (k := 0) (n := 1) (okD_str.mpr ⟨by simp, fun x hx => by rw [List.mem_singleton.mp hx]; exact sgn_ok h⟩) (by decide)
theorem any_sgs (c : Nat) (l : List Nat) : ((l.map fun c => dS [c]).any fun z => PyData.eqv z (dS [c])) = decide (c ∈ l) := by
  have := any_txs [c] (l.map fun c => [c])
  rw [List.map_map] at this
  rw [show ((fun x => dS x) ∘ fun c => [c]) = fun c => dS [c] from rfl] at this
  rw [this]
  rw [Bool.eq_iff_iff]
  simp
section
variable {P : Program} {w : World} {K : PySem.W.Frag} {mg : Str → Option Value} {base : Heap}
inductive FOnCycle : List PyData → PyData → Prop
  | mk {T : Lay} {c : Nat} {U : List Nat} (h : FewT T U) (hc : c ∈ U) : FOnCycle [dK (tKv T), dS [c]] (.bool (onc T U c))
inductive FReturns : List PyData → PyData → Prop
  | mk {T : Lay} {c : Nat} {U : List Nat} (h : FewT T U) (hc : c ∈ U) (hl : (w1 T c).length ≤ 100000) : FReturns [dK (tKv T), dS [c]] (.int ((rtn T U c).length : Nat))
theorem t_inRch {X : Cx} {R : Addr → Prop} {a e : Expr} {ss : List Kd} {O O1 O2 : Store} {pos : Pos} {n : Nat} {T : Lay} {U : List Nat} {t : Tx} {c : Nat} (hU : FewS T t U) (hc : c ∈ U) (ha : EV X R a ss O (.dat (dS [c])) O1) (hb : EV X R e ss O1 (.dat (sgD (rch T t U))) O2) (hr : Room n X.A) (hm : behindInMarks .In e = false := by rfl) : TV X R (.Compare a [.In] [e] pos) ss O (decide (c ∈ rch T t U)) O2 :=
  t_inL ha hb (pl_one (hU.sg c hc)) (pl_sgs (by have := rch_len T t U; have := hU.few; omega) fun x hx => hU.sg x (hU.rch ((rch_mem hU).mp hx))) (any_sgs c _) hr hm
/-! ### never_longer -/
theorem nl_all (L M : Lay) {U : List Nat} (h : ∀ c ∈ L.map (·.1) ++ M.map (·.1), c ∈ U) : ((dsg (L.map (·.1) ++ M.map (·.1))).all fun c => decide ((w1 L c).length ≤ (w1 M c).length)) = (U.all fun c => decide ((w1 L c).length ≤ (w1 M c).length)) := by
  rw [Bool.eq_iff_iff, List.all_eq_true, List.all_eq_true]
  constructor
  · intro g c hc
    by_cases hm : c ∈ L.map (·.1) ++ M.map (·.1)
    · exact g c (dsg_mem.mpr hm)
    · rw [List.mem_append, not_or] at hm
      rw [w1_none hm.1, w1_none hm.2]
      simp
  · exact fun g c hc => g c (h c (dsg_mem.mp hc))
end
end Fc
end
section
namespace Fc
open PySem PySem.Spec PyProof.Rows L2 Dl
open Evl (Ex)
local macro_rules | `(tactic| walk_at "v") => `(tactic| first | exact ev_v 0 | exact ev_v 1 | exact ev_v 2 | exact ev_v 3 | exact ev_v 4 | exact ev_v 5 | exact ev_v 6 | exact ev_v 7 | exact ev_v 8 | exact ev_v 9 | exact ev_v 10 | exact ev_v 11 | exact ev_v 12 | exact ev_v 13 | exact ev_v 14 | exact ev_v 15 | exact ev_v 16)
local macro_rules | `(tactic| walk_at "side") => `(tactic| first | assumption | rfl | decide | omega | (simp only [List.length_map, List.length_append, List.length_cons, List.length_nil, List.length_singleton] at *; omega))
local macro_rules | `(tactic| walk_at "ck") => `(tactic| (constructor <;> walk_at "side"))
local macro_rules | `(tactic| walk_at "add") => `(tactic| first | exact AddK.nat _ _ | exact AddK.nat1 _ | exact AddK.one _ | exact AddK.int _ _ | (refine AddK.str ?_; walk_at "side") | (refine AddK.lstM ?_; walk_at "side") | (refine AddK.tupM ?_; walk_at "side") | (refine AddK.lst ?_; walk_at "side") | (refine AddK.tup ?_; walk_at "side"))
local macro_rules | `(tactic| walk_at "mul") => `(tactic| first | (refine MulK.nat _ _ ?_; walk_at "side") | (refine MulK.int _ _ ?_; walk_at "side") | (refine MulK.str ?_ ?_ <;> walk_at "side") | (refine MulK.lst ?_ ?_ <;> walk_at "side"))
local macro_rules | `(tactic| walk_at "eq") => `(tactic| first | exact EqK.nat _ _ | exact EqK.int _ _ | exact EqK.str _ _ | exact EqK.bool _ _ | exact EqK.nonS _ | exact EqK.strN _ | exact EqK.intS _ _ | exact EqK.strI _ _ | exact EqK.nonI _ | exact EqK.intN _ | exact EqK.nonN | (refine EqK.gen ?_ ?_ ?_ <;> walk_at "side"))
local macro_rules | `(tactic| walk_at "lt") => `(tactic| first | exact LtK.nat _ _ | exact LtK.int _ _ | exact LtK.str _ _)
local macro_rules | `(tactic| walk_at "le") => `(tactic| first | exact LeK.nat _ _ | exact LeK.int _ _)
local macro_rules | `(tactic| walk_at "len") => `(tactic| first | (refine LenK.str ?_; walk_at "side") | exact LenK.lstM _ | exact LenK.tupM _ | exact LenK.lst _ | exact LenK.tup _)
local macro_rules | `(tactic| walk_at "ix") => `(tactic| first | (refine IxK.lst ?_; first | rfl | assumption) | (refine IxK.tup ?_; first | rfl | assumption) | (refine IxK.lN ?_; first | rfl | assumption) | (refine IxK.tN ?_; first | rfl | assumption) | (refine IxK.sN ?_ ?_ <;> walk_at "side"))
local macro_rules | `(tactic| walk_at "get") => `(tactic| first | exact GetK.mk _ _ _)
local macro_rules | `(tactic| walk_at "sl") => `(tactic| first | exact SlK.tFrom _ _ | exact SlK.tTo _ _ | exact SlK.lFrom _ _ | exact SlK.lTo _ _ | (refine SlK.sFrom _ _ ?_; walk_at "side") | (refine SlK.sTo _ _ ?_; walk_at "side") | (refine SlK.sMid _ _ _ ?_; walk_at "side") | exact SlK.tup _ _ _ | exact SlK.lst _ _ _ | (refine SlK.str ?_; walk_at "side"))
local macro_rules | `(tactic| walk_at "lit") => `(tactic| first | exact ev_strE (y := sL []) (by decide +kernel))
local macro_rules | `(tactic| walk_at "op") => `(tactic| (show OpI _ _ _ _ _ _ _; first | exact op_none | (refine' op_some ?_; (any_goals (walk_at "x")); done)))
local macro_rules | `(tactic| walk_at "blk") => `(tactic| exact blkOk_by (by kernel_rfl))
local macro_rules | `(tactic| walk_at "il") => `(tactic| first
  | (refine' il_tup ?_; (any_goals (walk_at "x")); done)
  | (refine' il_list ?_; (any_goals (walk_at "x")); done)
  | (refine' il_str ?_; (any_goals (walk_at "x")); done))
local macro_rules | `(tactic| walk_at "xs") => `(tactic| (show AV _ _ _ _ _ _ _; first | exact a_nil | (refine' a_cons ?_ ?_; (any_goals (walk_at "x")); (any_goals (walk_at "xs")); done)))
local macro_rules | `(tactic| walk_at "u") => `(tactic| (refine' x_call (by assumption) ?_ ?_ (by assumption); (any_goals (walk_at "xs")); (any_goals (walk_at "ck")); done))
local macro_rules | `(tactic| walk_at "x") => `(tactic| first
  | (show EV _ _ (Expr.Name _ _) _ _ _ _; walk_at "v")
  | (show EV _ _ (Expr.Constant _ _ _) _ _ _ _; first | exact ev_int | exact ev_bl | exact ev_non | walk_at "lit")
  | (show EV _ _ (Expr.BinOp _ Operator.Add _ _) _ _ _ _; refine' x_add ?_ ?_ ?_; (any_goals (walk_at "x")); (any_goals (walk_at "add")); done)
  | (show EV _ _ (Expr.BinOp _ Operator.Sub _ _) _ _ _ _; refine' x_sub ?_ ?_; (any_goals (walk_at "x")); done)
  | (show EV _ _ (Expr.BinOp _ Operator.Mult _ _) _ _ _ _; refine' x_mul ?_ ?_ ?_; (any_goals (walk_at "x")); (any_goals (walk_at "mul")); done)
  | (show EV _ _ (Expr.Call (Expr.Attribute _ "get" _) _ _ _) _ _ _ _; refine' x_get ?_ ?_ ?_ ?_ (by assumption); (any_goals (walk_at "x")); (any_goals (walk_at "get")); done)
  | (show EV _ _ (Expr.Call (Expr.Name "len" _) _ _ _) _ _ _ _; refine' x_len ?_ ?_ (by assumption); (any_goals (walk_at "x")); (any_goals (walk_at "len")); done)
  | (show EV _ _ (Expr.Call (Expr.Name _ _) _ _ _) _ _ _ _; walk_at "u")
  | (show EV _ _ (Expr.Subscript _ (Expr.Slice _ _ _ _) _) _ _ _ _; refine' x_sl ?_ ?_ ?_ ?_; (any_goals (walk_at "x")); (any_goals (walk_at "op")); (any_goals (walk_at "sl")); done)
  | (show EV _ _ (Expr.Subscript _ _ _) _ _ _ _; refine' x_ix ?_ ?_ ?_; (any_goals (walk_at "x")); (any_goals (walk_at "ix")); done)
  | (show EV _ _ (Expr.Tuple _ _ _) _ _ _ _; refine' x_tup ?_; (any_goals (walk_at "xs")); done)
  | (show EV _ _ (Expr.List _ _) _ _ _ _; refine' x_lst ?_; (any_goals (walk_at "xs")); done)
  | (show EV _ _ (Expr.Compare _ [CmpOp.Eq] _ _) _ _ _ _; refine' x_eq ?_ ?_ ?_ (by assumption); (any_goals (walk_at "x")); (any_goals (walk_at "eq")); done)
  | (show EV _ _ (Expr.Compare _ [CmpOp.NotEq] _ _) _ _ _ _; refine' x_ne ?_ ?_ ?_ (by assumption); (any_goals (walk_at "x")); (any_goals (walk_at "eq")); done)
  | (show EV _ _ (Expr.Compare _ [CmpOp.Lt] _ _) _ _ _ _; refine' x_lt ?_ ?_ ?_; (any_goals (walk_at "x")); (any_goals (walk_at "lt")); done)
  | (show EV _ _ (Expr.Compare _ [CmpOp.Gt] _ _) _ _ _ _; refine' x_gt ?_ ?_ ?_; (any_goals (walk_at "x")); (any_goals (walk_at "le")); done)
  | (show EV _ _ (Expr.Compare _ [CmpOp.LtE] _ _) _ _ _ _; refine' x_le ?_ ?_ ?_; (any_goals (walk_at "x")); (any_goals (walk_at "le")); done)
  | (show EV _ _ (Expr.UnaryOp _ _ _) _ _ _ _; refine' ev_not ?_; (any_goals (walk_at "x")); done))
local macro_rules | `(tactic| walk_at "t") => `(tactic| first
  | (show TV _ _ (Expr.Compare _ [CmpOp.Eq] _ _) _ _ _ _; refine' t_eq ?_ ?_ ?_ (by assumption); (any_goals (walk_at "x")); (any_goals (walk_at "eq")); done)
  | (show TV _ _ (Expr.Compare _ [CmpOp.NotEq] _ _) _ _ _ _; refine' t_ne ?_ ?_ ?_ (by assumption); (any_goals (walk_at "x")); (any_goals (walk_at "eq")); done)
  | (show TV _ _ (Expr.Compare _ [CmpOp.Lt] _ _) _ _ _ _; refine' t_lt ?_ ?_ ?_; (any_goals (walk_at "x")); (any_goals (walk_at "lt")); done)
  | (show TV _ _ (Expr.Compare _ [CmpOp.Gt] _ _) _ _ _ _; refine' t_gt ?_ ?_ ?_; (any_goals (walk_at "x")); (any_goals (walk_at "le")); done)
  | (show TV _ _ (Expr.Compare _ [CmpOp.LtE] _ _) _ _ _ _; refine' t_le ?_ ?_ ?_; (any_goals (walk_at "x")); (any_goals (walk_at "le")); done)
  | (show TV _ _ (Expr.Compare _ [CmpOp.Is] _ _) _ _ _ _; refine' t_isN ?_; (any_goals (walk_at "x")); done)
  | (show TV _ _ (Expr.Compare _ [CmpOp.IsNot] _ _) _ _ _ _; refine' t_notN ?_; (any_goals (walk_at "x")); done)
  | (show TV _ _ (Expr.UnaryOp UnaryOp.Not _ _) _ _ _ _; refine' tv_not ?_; (any_goals (walk_at "t")); done)
  | (show TV _ _ _ _ _ _ _; refine' tv_e ?_; (any_goals (walk_at "x")); done))
/-! ### cycles -/
noncomputable def own (T : Lay) (U : List Nat) (c : Nat) : List Nat := if onc T U c = true then (rch T [c] U).filter fun x => decide (c ∈ rch T [x] U) else [c]
noncomputable def beh (T : Lay) (U : List Nat) (c : Nat) : List Nat := (own T U c).flatMap fun o => (w1 T o).filter fun x => !decide (x ∈ own T U c)
noncomputable def cycF (T : Lay) (U : List Nat) : Nat → Nat → Nat
  | 0, _ => 0
  | n + 1, c => mx 0 ((beh T U c).map (cycF T U n)) + (if onc T U c = true then 1 else 0)
noncomputable def vis (T : Lay) (U : List Nat) : Nat → List Nat → Nat → List Nat
  | 0, mem, _ => mem
  | n + 1, mem, c => if c ∈ mem then mem else (beh T U c).foldl (vis T U n) mem ++ [c]
theorem Rch.trans {T : Lay} {t s : Tx} (h : ∀ c ∈ s, Rch T t c) {x : Nat} (r : Rch T s x) : Rch T t x := by
  induction r with
  | base hc => exact h _ hc
  | step _ hx ih => exact .step ih hx
theorem Rch.self {T : Lay} {c : Nat} : Rch T [c] c := .base List.mem_cons_self
theorem Rch.cons {T : Lay} {t : Tx} {c x : Nat} (h : Rch T t c) (r : Rch T [c] x) : Rch T t x := r.trans fun y hy => by rw [List.mem_singleton.mp hy]; exact h
theorem rch_w {T : Lay} {c x : Nat} (hx : x ∈ w1 T c) {y : Nat} (r : Rch T [x] y) : Rch T (w1 T c) y := Rch.cons (.base hx) r
theorem own_rch {T : Lay} {U : List Nat} (h : FewT T U) {c o : Nat} (hc : c ∈ U) (ho : o ∈ own T U c) : Rch T [c] o := by
  unfold own at ho
  split at ho
  · exact (rch_mem (h.one hc)).mp (List.mem_filter.mp ho).1
  · rw [List.mem_singleton.mp ho]; exact .self
theorem beh_rch {T : Lay} {U : List Nat} (h : FewT T U) {c x : Nat} (hc : c ∈ U) (hx : x ∈ beh T U c) : Rch T [c] x ∧ ¬ Rch T [x] c := by
  obtain ⟨o, ho, hx⟩ := List.mem_flatMap.mp hx
  obtain ⟨hx, hn⟩ := List.mem_filter.mp hx
  have r1 := own_rch h hc ho
  have r2 : Rch T [c] x := .step r1 hx
  have hxU := (h.one hc).rch r2
  refine ⟨r2, fun r => ?_⟩
  have hn : x ∉ own T U c := by simpa using hn
  unfold own at hn ho
  split at hn
  · exact hn (List.mem_filter.mpr ⟨(rch_mem (h.one hc)).mpr r2, decide_eq_true ((rch_mem (h.one hxU)).mpr r)⟩)
  · rename_i e
    rw [if_neg e] at ho
    rw [List.mem_singleton.mp ho] at hx
    refine e ?_
    unfold onc
    exact decide_eq_true ((rch_mem (h.w hc)).mpr (rch_w hx r))
theorem rch_in {T : Lay} {U : List Nat} (h : FewT T U) {c : Nat} (hc : c ∈ U) : c ∈ rch T [c] U := (rch_mem (h.one hc)).mpr .self
theorem beh_lt {T : Lay} {U : List Nat} (h : FewT T U) {c x : Nat} (hc : c ∈ U) (hx : x ∈ beh T U c) : x ∈ U ∧ (rch T [x] U).length < (rch T [c] U).length := by
  obtain ⟨r1, r2⟩ := beh_rch h hc hx
  have hxU := (h.one hc).rch r1
  refine ⟨hxU, ?_⟩
  have n1 : (c :: rch T [x] U).Nodup := List.nodup_cons.mpr ⟨fun z => r2 ((rch_mem (h.one hxU)).mp z), (rch_sorted _ _ _).imp fun h => Nat.ne_of_lt h⟩
  have := nd_le n1 (u := rch T [c] U) fun y hy => by
    rcases List.mem_cons.mp hy with rfl | hy
    · exact rch_in h hc
    · exact (rch_mem (h.one hc)).mpr (Rch.cons r1 ((rch_mem (h.one hxU)).mp hy))
  exact this
theorem cyc_fuel {T : Lay} {U : List Nat} (h : FewT T U) : ∀ (n m c : Nat), c ∈ U → (rch T [c] U).length ≤ n → (rch T [c] U).length ≤ m → cycF T U n c = cycF T U m c
  | 0, m, c, hc, h1, _ => absurd (List.length_pos_of_mem (rch_in h hc)) (by omega)
  | n + 1, 0, c, hc, _, h2 => absurd (List.length_pos_of_mem (rch_in h hc)) (by omega)
  | n + 1, m + 1, c, hc, h1, h2 => by
    unfold cycF
    congr 2
    refine List.map_congr_left fun x hx => ?_
    obtain ⟨hxU, hlt⟩ := beh_lt h hc hx
    exact cyc_fuel h n m x hxU (by omega) (by omega)
noncomputable def cyc (T : Lay) (U : List Nat) (c : Nat) : Nat := cycF T U 63 c
theorem cyc_eq {T : Lay} {U : List Nat} (h : FewT T U) {c : Nat} (hc : c ∈ U) : cyc T U c = mx 0 ((beh T U c).map (cyc T U)) + (if onc T U c = true then 1 else 0) := by
  have l1 := rch_len T [c] U
  have l2 := h.few
  have e : cyc T U c = cycF T U 64 c := cyc_fuel h 63 64 c hc (by omega) (by omega)
  rw [e]
  rfl
theorem vis_mem {T : Lay} {U : List Nat} (h : FewT T U) : ∀ (n : Nat) (mem : List Nat) (c : Nat), c ∈ U → ∀ y ∈ vis T U n mem c, y ∈ mem ∨ Rch T [c] y
  | 0, mem, c, _, y, hy => .inl hy
  | n + 1, mem, c, hc, y, hy => by
    unfold vis at hy
    split at hy
    · exact .inl hy
    · rcases List.mem_append.mp hy with hy | hy
      · have key : ∀ (l mem : List Nat), (∀ x ∈ l, x ∈ beh T U c) → ∀ y ∈ l.foldl (vis T U n) mem, y ∈ mem ∨ Rch T [c] y := by
          intro l
          induction l with
          | nil => exact fun _ _ y hy => .inl hy
          | cons x l ih =>
            intro mem hl y hy
            have hx := hl x List.mem_cons_self
            rcases ih (vis T U n mem x) (fun z hz => hl z (List.mem_cons_of_mem _ hz)) y hy with g | g
            · rcases vis_mem h n mem x (beh_lt h hc hx).1 y g with g | g
              · exact .inl g
              · exact .inr (Rch.cons (beh_rch h hc hx).1 g)
            · exact .inr g
        exact key _ _ (fun x hx => hx) y hy
      · rw [List.mem_singleton.mp hy]; exact .inr .self
/-- what is kept of the memory -/
structure MemOk (U mem : List Nat) : Prop where
  nd : mem.Nodup
  sub : ∀ c ∈ mem, c ∈ U
theorem vis_ok {T : Lay} {U : List Nat} (h : FewT T U) : ∀ (n : Nat) (mem : List Nat) (c : Nat), c ∈ U → MemOk U mem → MemOk U (vis T U n mem c)
  | 0, mem, c, _, hm => hm
  | n + 1, mem, c, hc, hm => by
    unfold vis
    split
    · exact hm
    · rename_i hn
      have key : ∀ (l mem : List Nat), (∀ x ∈ l, x ∈ beh T U c) → MemOk U mem → c ∉ mem → MemOk U (l.foldl (vis T U n) mem) ∧ c ∉ l.foldl (vis T U n) mem := by
        intro l
        induction l with
        | nil => exact fun _ _ h1 h2 => ⟨h1, h2⟩
        | cons x l ih =>
          intro mem hl h1 h2
          have hx := hl x List.mem_cons_self
          refine ih _ (fun z hz => hl z (List.mem_cons_of_mem _ hz)) (vis_ok h n mem x (beh_lt h hc hx).1 h1) fun z => ?_
          rcases vis_mem h n mem x (beh_lt h hc hx).1 c z with g | g
          · exact h2 g
          · exact (beh_rch h hc hx).2 g
      obtain ⟨h1, h2⟩ := key _ mem (fun x hx => hx) hm hn
      refine ⟨List.nodup_append.mpr ⟨h1.nd, by simp, fun x hx y hy e => ?_⟩, fun x hx => ?_⟩
      · rw [List.mem_singleton.mp hy] at e; exact h2 (e ▸ hx)
      · rcases List.mem_append.mp hx with hx | hx
        · exact h1.sub x hx
        · rw [List.mem_singleton.mp hx]; exact hc
theorem vis_new {T : Lay} {U : List Nat} (h : FewT T U) {n : Nat} {c : Nat} (hc : c ∈ U) {mem : List Nat} (hn : c ∉ mem) : c ∉ (beh T U c).foldl (vis T U n) mem := by
  have key : ∀ (l mem : List Nat), (∀ x ∈ l, x ∈ beh T U c) → c ∉ mem → c ∉ l.foldl (vis T U n) mem := by
    intro l
    induction l with
    | nil => exact fun _ _ h2 => h2
    | cons x l ih =>
      intro mem hl h2
      have hx := hl x List.mem_cons_self
      refine ih _ (fun z hz => hl z (List.mem_cons_of_mem _ hz)) fun z => ?_
      rcases vis_mem h n mem x (beh_lt h hc hx).1 c z with g | g
      · exact h2 g
      · exact (beh_rch h hc hx).2 g
  exact key _ _ (fun x hx => hx) hn
noncomputable def memT (T : Lay) (U mem : List Nat) : List (Str × PyData) := mem.map fun c => (sL [c], .int (cyc T U c : Nat))
theorem get_memT (T : Lay) (U : List Nat) (l : List Nat) (c : Nat) : getT (memT T U l) (sL [c]) = if c ∈ l then some (.int (cyc T U c : Nat)) else none := by
  induction l with
  | nil => rfl
  | cons a l ih =>
    unfold getT memT at *
    rw [List.map_cons, List.find?_cons]
    by_cases h : a = c
    · subst h; simp
    · have h2 : ¬ sL [a] = sL [c] := fun e => h (sL1_inj.mp e)
      have h3 : ¬ c = a := fun e => h e.symm
      simp only [decide_eq_false h2, List.mem_cons, h3, false_or]
      exact ih
theorem put_memT {T : Lay} {U l : List Nat} {c : Nat} (h : c ∉ l) : putT (memT T U l) (sL [c]) (.int (cyc T U c : Nat)) = memT T U (l ++ [c]) := by
  rw [putT_new fun q hq e => by
    obtain ⟨a, ha, rfl⟩ := List.mem_map.mp hq
    exact h (sL1_inj.mp e ▸ ha)]
  unfold memT
  rw [List.map_append]
  rfl
end Fc
end
section
namespace Fc
open PySem PySem.Spec PyProof.Rows L2 Dl
open Evl (Ex)
local macro_rules | `(tactic| walk_at "v") => `(tactic| first | exact ev_v 0 | exact ev_v 1 | exact ev_v 2 | exact ev_v 3 | exact ev_v 4 | exact ev_v 5 | exact ev_v 6 | exact ev_v 7 | exact ev_v 8 | exact ev_v 9 | exact ev_v 10 | exact ev_v 11 | exact ev_v 12 | exact ev_v 13 | exact ev_v 14 | exact ev_v 15 | exact ev_v 16)
local macro_rules | `(tactic| walk_at "side") => `(tactic| first | assumption | rfl | decide | omega | (simp only [List.length_map, List.length_append, List.length_cons, List.length_nil, List.length_singleton] at *; omega))
local macro_rules | `(tactic| walk_at "ck") => `(tactic| (constructor <;> walk_at "side"))
local macro_rules | `(tactic| walk_at "add") => `(tactic| first | exact AddK.nat _ _ | exact AddK.nat1 _ | exact AddK.one _ | exact AddK.int _ _ | (refine AddK.str ?_; walk_at "side") | (refine AddK.lstM ?_; walk_at "side") | (refine AddK.tupM ?_; walk_at "side") | (refine AddK.lst ?_; walk_at "side") | (refine AddK.tup ?_; walk_at "side"))
local macro_rules | `(tactic| walk_at "mul") => `(tactic| first | (refine MulK.nat _ _ ?_; walk_at "side") | (refine MulK.int _ _ ?_; walk_at "side") | (refine MulK.str ?_ ?_ <;> walk_at "side") | (refine MulK.lst ?_ ?_ <;> walk_at "side"))
local macro_rules | `(tactic| walk_at "eq") => `(tactic| first | exact EqK.nat _ _ | exact EqK.int _ _ | exact EqK.str _ _ | exact EqK.bool _ _ | exact EqK.nonS _ | exact EqK.strN _ | exact EqK.intS _ _ | exact EqK.strI _ _ | exact EqK.nonI _ | exact EqK.intN _ | exact EqK.nonN | (refine EqK.gen ?_ ?_ ?_ <;> walk_at "side"))
local macro_rules | `(tactic| walk_at "lt") => `(tactic| first | exact LtK.nat _ _ | exact LtK.int _ _ | exact LtK.str _ _)
local macro_rules | `(tactic| walk_at "le") => `(tactic| first | exact LeK.nat _ _ | exact LeK.int _ _)
local macro_rules | `(tactic| walk_at "len") => `(tactic| first | (refine LenK.str ?_; walk_at "side") | exact LenK.lstM _ | exact LenK.tupM _ | exact LenK.lst _ | exact LenK.tup _)
local macro_rules | `(tactic| walk_at "ix") => `(tactic| first | (refine IxK.lst ?_; first | rfl | assumption) | (refine IxK.tup ?_; first | rfl | assumption) | (refine IxK.lN ?_; first | rfl | assumption) | (refine IxK.tN ?_; first | rfl | assumption) | (refine IxK.sN ?_ ?_ <;> walk_at "side"))
local macro_rules | `(tactic| walk_at "get") => `(tactic| first | exact GetK.mk _ _ _)
local macro_rules | `(tactic| walk_at "sl") => `(tactic| first | exact SlK.tFrom _ _ | exact SlK.tTo _ _ | exact SlK.lFrom _ _ | exact SlK.lTo _ _ | (refine SlK.sFrom _ _ ?_; walk_at "side") | (refine SlK.sTo _ _ ?_; walk_at "side") | (refine SlK.sMid _ _ _ ?_; walk_at "side") | exact SlK.tup _ _ _ | exact SlK.lst _ _ _ | (refine SlK.str ?_; walk_at "side"))
local macro_rules | `(tactic| walk_at "lit") => `(tactic| first | exact ev_strE (y := sL []) (by decide +kernel))
local macro_rules | `(tactic| walk_at "op") => `(tactic| (show OpI _ _ _ _ _ _ _; first | exact op_none | (refine' op_some ?_; (any_goals (walk_at "x")); done)))
local macro_rules | `(tactic| walk_at "blk") => `(tactic| exact blkOk_by (by kernel_rfl))
local macro_rules | `(tactic| walk_at "il") => `(tactic| first
  | (refine' il_tup ?_; (any_goals (walk_at "x")); done)
  | (refine' il_list ?_; (any_goals (walk_at "x")); done)
  | (refine' il_str ?_; (any_goals (walk_at "x")); done))
local macro_rules | `(tactic| walk_at "xs") => `(tactic| (show AV _ _ _ _ _ _ _; first | exact a_nil | (refine' a_cons ?_ ?_; (any_goals (walk_at "x")); (any_goals (walk_at "xs")); done)))
local macro_rules | `(tactic| walk_at "u") => `(tactic| (refine' x_call (by assumption) ?_ ?_ (by assumption); (any_goals (walk_at "xs")); (any_goals (walk_at "ck")); done))
local macro_rules | `(tactic| walk_at "x") => `(tactic| first
  | (show EV _ _ (Expr.Name _ _) _ _ _ _; walk_at "v")
  | (show EV _ _ (Expr.Constant _ _ _) _ _ _ _; first | exact ev_int | exact ev_bl | exact ev_non | walk_at "lit")
  | (show EV _ _ (Expr.BinOp _ Operator.Add _ _) _ _ _ _; refine' x_add ?_ ?_ ?_; (any_goals (walk_at "x")); (any_goals (walk_at "add")); done)
  | (show EV _ _ (Expr.BinOp _ Operator.Sub _ _) _ _ _ _; refine' x_sub ?_ ?_; (any_goals (walk_at "x")); done)
  | (show EV _ _ (Expr.BinOp _ Operator.Mult _ _) _ _ _ _; refine' x_mul ?_ ?_ ?_; (any_goals (walk_at "x")); (any_goals (walk_at "mul")); done)
  | (show EV _ _ (Expr.Call (Expr.Attribute _ "get" _) _ _ _) _ _ _ _; refine' x_get ?_ ?_ ?_ ?_ (by assumption); (any_goals (walk_at "x")); (any_goals (walk_at "get")); done)
  | (show EV _ _ (Expr.Call (Expr.Name "len" _) _ _ _) _ _ _ _; refine' x_len ?_ ?_ (by assumption); (any_goals (walk_at "x")); (any_goals (walk_at "len")); done)
  | (show EV _ _ (Expr.Call (Expr.Name _ _) _ _ _) _ _ _ _; walk_at "u")
  | (show EV _ _ (Expr.Subscript _ (Expr.Slice _ _ _ _) _) _ _ _ _; refine' x_sl ?_ ?_ ?_ ?_; (any_goals (walk_at "x")); (any_goals (walk_at "op")); (any_goals (walk_at "sl")); done)
  | (show EV _ _ (Expr.Subscript _ _ _) _ _ _ _; refine' x_ix ?_ ?_ ?_; (any_goals (walk_at "x")); (any_goals (walk_at "ix")); done)
  | (show EV _ _ (Expr.Tuple _ _ _) _ _ _ _; refine' x_tup ?_; (any_goals (walk_at "xs")); done)
  | (show EV _ _ (Expr.List _ _) _ _ _ _; refine' x_lst ?_; (any_goals (walk_at "xs")); done)
  | (show EV _ _ (Expr.Compare _ [CmpOp.Eq] _ _) _ _ _ _; refine' x_eq ?_ ?_ ?_ (by assumption); (any_goals (walk_at "x")); (any_goals (walk_at "eq")); done)
  | (show EV _ _ (Expr.Compare _ [CmpOp.NotEq] _ _) _ _ _ _; refine' x_ne ?_ ?_ ?_ (by assumption); (any_goals (walk_at "x")); (any_goals (walk_at "eq")); done)
  | (show EV _ _ (Expr.Compare _ [CmpOp.Lt] _ _) _ _ _ _; refine' x_lt ?_ ?_ ?_; (any_goals (walk_at "x")); (any_goals (walk_at "lt")); done)
  | (show EV _ _ (Expr.Compare _ [CmpOp.Gt] _ _) _ _ _ _; refine' x_gt ?_ ?_ ?_; (any_goals (walk_at "x")); (any_goals (walk_at "le")); done)
  | (show EV _ _ (Expr.Compare _ [CmpOp.LtE] _ _) _ _ _ _; refine' x_le ?_ ?_ ?_; (any_goals (walk_at "x")); (any_goals (walk_at "le")); done)
  | (show EV _ _ (Expr.UnaryOp _ _ _) _ _ _ _; refine' ev_not ?_; (any_goals (walk_at "x")); done))
local macro_rules | `(tactic| walk_at "t") => `(tactic| first
  | (show TV _ _ (Expr.Compare _ [CmpOp.Eq] _ _) _ _ _ _; refine' t_eq ?_ ?_ ?_ (by assumption); (any_goals (walk_at "x")); (any_goals (walk_at "eq")); done)
  | (show TV _ _ (Expr.Compare _ [CmpOp.NotEq] _ _) _ _ _ _; refine' t_ne ?_ ?_ ?_ (by assumption); (any_goals (walk_at "x")); (any_goals (walk_at "eq")); done)
  | (show TV _ _ (Expr.Compare _ [CmpOp.Lt] _ _) _ _ _ _; refine' t_lt ?_ ?_ ?_; (any_goals (walk_at "x")); (any_goals (walk_at "lt")); done)
  | (show TV _ _ (Expr.Compare _ [CmpOp.Gt] _ _) _ _ _ _; refine' t_gt ?_ ?_ ?_; (any_goals (walk_at "x")); (any_goals (walk_at "le")); done)
  | (show TV _ _ (Expr.Compare _ [CmpOp.LtE] _ _) _ _ _ _; refine' t_le ?_ ?_ ?_; (any_goals (walk_at "x")); (any_goals (walk_at "le")); done)
  | (show TV _ _ (Expr.Compare _ [CmpOp.Is] _ _) _ _ _ _; refine' t_isN ?_; (any_goals (walk_at "x")); done)
  | (show TV _ _ (Expr.Compare _ [CmpOp.IsNot] _ _) _ _ _ _; refine' t_notN ?_; (any_goals (walk_at "x")); done)
  | (show TV _ _ (Expr.UnaryOp UnaryOp.Not _ _) _ _ _ _; refine' tv_not ?_; (any_goals (walk_at "t")); done)
  | (show TV _ _ _ _ _ _ _; refine' tv_e ?_; (any_goals (walk_at "x")); done))
/-- the results are not too long -/
abbrev ShortT (T : Lay) (U : List Nat) : Prop := ∀ c ∈ U, (w1 T c).length ≤ 100000
def tCyc (N : Nat) : DSp := fun ks B k _ => ∃ T U c p mem, FewT T U ∧ ShortT T U ∧ c ∈ U ∧ (rch T [c] U).length ≤ N ∧ MemOk U mem ∧ ks = [.dat (dK (tKv T)), .dat (dS [c]), .val (.ref p)] ∧ B = [(p, .od (memT T U mem))] ∧ k (.dat (.int (cyc T U c : Nat))) [(p, .od (memT T U (vis T U N mem c)))]
theorem beh_len {T : Lay} {U : List Nat} (h : FewT T U) (hs : ShortT T U) {c : Nat} (hc : c ∈ U) : ∀ l : List Nat, (∀ o ∈ l, o ∈ U) → (l.flatMap fun o => (w1 T o).filter fun x => !decide (x ∈ own T U c)).length ≤ l.length * 100000
  | [], _ => by simp
  | o :: l, hl => by
    rw [List.flatMap_cons, List.length_append, List.length_cons, Nat.succ_mul]
    have h1 := beh_len h hs hc l fun x hx => hl x (List.mem_cons_of_mem _ hx)
    have h2 := List.length_filter_le (fun x => !decide (x ∈ own T U c)) (w1 T o)
    have h3 := hs o (hl o List.mem_cons_self)
    omega
theorem own_U {T : Lay} {U : List Nat} (h : FewT T U) {c : Nat} (hc : c ∈ U) : (∀ o ∈ own T U c, o ∈ U) ∧ (own T U c).length ≤ 63 := by
  refine ⟨fun o ho => (h.one hc).rch (own_rch h hc ho), ?_⟩
  unfold own
  have := h.few
  have := rch_len T [c] U
  split
  · exact Nat.le_trans (List.length_filter_le _ _) (by omega)
  · simp
section
variable {P : Program} {w : World} {K : PySem.W.Frag} {mg : Str → Option Value} {base : Heap}
end
end Fc
end
section
namespace Fc
open PySem PySem.Spec PyProof.Rows L2 Dl
open Evl (Ex)
local macro_rules | `(tactic| walk_at "v") => `(tactic| first | exact ev_v 0 | exact ev_v 1 | exact ev_v 2 | exact ev_v 3 | exact ev_v 4 | exact ev_v 5 | exact ev_v 6 | exact ev_v 7 | exact ev_v 8 | exact ev_v 9 | exact ev_v 10 | exact ev_v 11 | exact ev_v 12 | exact ev_v 13 | exact ev_v 14 | exact ev_v 15 | exact ev_v 16)
local macro_rules | `(tactic| walk_at "side") => `(tactic| first | assumption | rfl | decide | omega | (simp only [List.length_map, List.length_append, List.length_cons, List.length_nil, List.length_singleton] at *; omega))
local macro_rules | `(tactic| walk_at "ck") => `(tactic| (constructor <;> walk_at "side"))
local macro_rules | `(tactic| walk_at "add") => `(tactic| first | exact AddK.nat _ _ | exact AddK.nat1 _ | exact AddK.one _ | exact AddK.int _ _ | (refine AddK.str ?_; walk_at "side") | (refine AddK.lstM ?_; walk_at "side") | (refine AddK.tupM ?_; walk_at "side") | (refine AddK.lst ?_; walk_at "side") | (refine AddK.tup ?_; walk_at "side"))
local macro_rules | `(tactic| walk_at "mul") => `(tactic| first | (refine MulK.nat _ _ ?_; walk_at "side") | (refine MulK.int _ _ ?_; walk_at "side") | (refine MulK.str ?_ ?_ <;> walk_at "side") | (refine MulK.lst ?_ ?_ <;> walk_at "side"))
local macro_rules | `(tactic| walk_at "eq") => `(tactic| first | exact EqK.nat _ _ | exact EqK.int _ _ | exact EqK.str _ _ | exact EqK.bool _ _ | exact EqK.nonS _ | exact EqK.strN _ | exact EqK.intS _ _ | exact EqK.strI _ _ | exact EqK.nonI _ | exact EqK.intN _ | exact EqK.nonN | (refine EqK.gen ?_ ?_ ?_ <;> walk_at "side"))
local macro_rules | `(tactic| walk_at "lt") => `(tactic| first | exact LtK.nat _ _ | exact LtK.int _ _ | exact LtK.str _ _)
local macro_rules | `(tactic| walk_at "le") => `(tactic| first | exact LeK.nat _ _ | exact LeK.int _ _)
local macro_rules | `(tactic| walk_at "len") => `(tactic| first | (refine LenK.str ?_; walk_at "side") | exact LenK.lstM _ | exact LenK.tupM _ | exact LenK.lst _ | exact LenK.tup _)
local macro_rules | `(tactic| walk_at "ix") => `(tactic| first | (refine IxK.lst ?_; first | rfl | assumption) | (refine IxK.tup ?_; first | rfl | assumption) | (refine IxK.lN ?_; first | rfl | assumption) | (refine IxK.tN ?_; first | rfl | assumption) | (refine IxK.sN ?_ ?_ <;> walk_at "side"))
local macro_rules | `(tactic| walk_at "get") => `(tactic| first | exact GetK.mk _ _ _)
local macro_rules | `(tactic| walk_at "sl") => `(tactic| first | exact SlK.tFrom _ _ | exact SlK.tTo _ _ | exact SlK.lFrom _ _ | exact SlK.lTo _ _ | (refine SlK.sFrom _ _ ?_; walk_at "side") | (refine SlK.sTo _ _ ?_; walk_at "side") | (refine SlK.sMid _ _ _ ?_; walk_at "side") | exact SlK.tup _ _ _ | exact SlK.lst _ _ _ | (refine SlK.str ?_; walk_at "side"))
local macro_rules | `(tactic| walk_at "lit") => `(tactic| first | exact ev_strE (y := sL []) (by decide +kernel))
local macro_rules | `(tactic| walk_at "op") => `(tactic| (show OpI _ _ _ _ _ _ _; first | exact op_none | (refine' op_some ?_; (any_goals (walk_at "x")); done)))
local macro_rules | `(tactic| walk_at "blk") => `(tactic| exact blkOk_by (by kernel_rfl))
local macro_rules | `(tactic| walk_at "il") => `(tactic| first
  | (refine' il_tup ?_; (any_goals (walk_at "x")); done)
  | (refine' il_list ?_; (any_goals (walk_at "x")); done)
  | (refine' il_str ?_; (any_goals (walk_at "x")); done))
local macro_rules | `(tactic| walk_at "xs") => `(tactic| (show AV _ _ _ _ _ _ _; first | exact a_nil | (refine' a_cons ?_ ?_; (any_goals (walk_at "x")); (any_goals (walk_at "xs")); done)))
local macro_rules | `(tactic| walk_at "u") => `(tactic| (refine' x_call (by assumption) ?_ ?_ (by assumption); (any_goals (walk_at "xs")); (any_goals (walk_at "ck")); done))
local macro_rules | `(tactic| walk_at "x") => `(tactic| first
  | (show EV _ _ (Expr.Name _ _) _ _ _ _; walk_at "v")
  | (show EV _ _ (Expr.Constant _ _ _) _ _ _ _; first | exact ev_int | exact ev_bl | exact ev_non | walk_at "lit")
  | (show EV _ _ (Expr.BinOp _ Operator.Add _ _) _ _ _ _; refine' x_add ?_ ?_ ?_; (any_goals (walk_at "x")); (any_goals (walk_at "add")); done)
  | (show EV _ _ (Expr.BinOp _ Operator.Sub _ _) _ _ _ _; refine' x_sub ?_ ?_; (any_goals (walk_at "x")); done)
  | (show EV _ _ (Expr.BinOp _ Operator.Mult _ _) _ _ _ _; refine' x_mul ?_ ?_ ?_; (any_goals (walk_at "x")); (any_goals (walk_at "mul")); done)
  | (show EV _ _ (Expr.Call (Expr.Attribute _ "get" _) _ _ _) _ _ _ _; refine' x_get ?_ ?_ ?_ ?_ (by assumption); (any_goals (walk_at "x")); (any_goals (walk_at "get")); done)
  | (show EV _ _ (Expr.Call (Expr.Name "len" _) _ _ _) _ _ _ _; refine' x_len ?_ ?_ (by assumption); (any_goals (walk_at "x")); (any_goals (walk_at "len")); done)
  | (show EV _ _ (Expr.Call (Expr.Name _ _) _ _ _) _ _ _ _; walk_at "u")
  | (show EV _ _ (Expr.Subscript _ (Expr.Slice _ _ _ _) _) _ _ _ _; refine' x_sl ?_ ?_ ?_ ?_; (any_goals (walk_at "x")); (any_goals (walk_at "op")); (any_goals (walk_at "sl")); done)
  | (show EV _ _ (Expr.Subscript _ _ _) _ _ _ _; refine' x_ix ?_ ?_ ?_; (any_goals (walk_at "x")); (any_goals (walk_at "ix")); done)
  | (show EV _ _ (Expr.Tuple _ _ _) _ _ _ _; refine' x_tup ?_; (any_goals (walk_at "xs")); done)
  | (show EV _ _ (Expr.List _ _) _ _ _ _; refine' x_lst ?_; (any_goals (walk_at "xs")); done)
  | (show EV _ _ (Expr.Compare _ [CmpOp.Eq] _ _) _ _ _ _; refine' x_eq ?_ ?_ ?_ (by assumption); (any_goals (walk_at "x")); (any_goals (walk_at "eq")); done)
  | (show EV _ _ (Expr.Compare _ [CmpOp.NotEq] _ _) _ _ _ _; refine' x_ne ?_ ?_ ?_ (by assumption); (any_goals (walk_at "x")); (any_goals (walk_at "eq")); done)
  | (show EV _ _ (Expr.Compare _ [CmpOp.Lt] _ _) _ _ _ _; refine' x_lt ?_ ?_ ?_; (any_goals (walk_at "x")); (any_goals (walk_at "lt")); done)
  | (show EV _ _ (Expr.Compare _ [CmpOp.Gt] _ _) _ _ _ _; refine' x_gt ?_ ?_ ?_; (any_goals (walk_at "x")); (any_goals (walk_at "le")); done)
  | (show EV _ _ (Expr.Compare _ [CmpOp.LtE] _ _) _ _ _ _; refine' x_le ?_ ?_ ?_; (any_goals (walk_at "x")); (any_goals (walk_at "le")); done)
  | (show EV _ _ (Expr.UnaryOp _ _ _) _ _ _ _; refine' ev_not ?_; (any_goals (walk_at "x")); done))
local macro_rules | `(tactic| walk_at "t") => `(tactic| first
  | (show TV _ _ (Expr.Compare _ [CmpOp.Eq] _ _) _ _ _ _; refine' t_eq ?_ ?_ ?_ (by assumption); (any_goals (walk_at "x")); (any_goals (walk_at "eq")); done)
  | (show TV _ _ (Expr.Compare _ [CmpOp.NotEq] _ _) _ _ _ _; refine' t_ne ?_ ?_ ?_ (by assumption); (any_goals (walk_at "x")); (any_goals (walk_at "eq")); done)
  | (show TV _ _ (Expr.Compare _ [CmpOp.Lt] _ _) _ _ _ _; refine' t_lt ?_ ?_ ?_; (any_goals (walk_at "x")); (any_goals (walk_at "lt")); done)
  | (show TV _ _ (Expr.Compare _ [CmpOp.Gt] _ _) _ _ _ _; refine' t_gt ?_ ?_ ?_; (any_goals (walk_at "x")); (any_goals (walk_at "le")); done)
  | (show TV _ _ (Expr.Compare _ [CmpOp.LtE] _ _) _ _ _ _; refine' t_le ?_ ?_ ?_; (any_goals (walk_at "x")); (any_goals (walk_at "le")); done)
  | (show TV _ _ (Expr.Compare _ [CmpOp.Is] _ _) _ _ _ _; refine' t_isN ?_; (any_goals (walk_at "x")); done)
  | (show TV _ _ (Expr.Compare _ [CmpOp.IsNot] _ _) _ _ _ _; refine' t_notN ?_; (any_goals (walk_at "x")); done)
  | (show TV _ _ (Expr.UnaryOp UnaryOp.Not _ _) _ _ _ _; refine' tv_not ?_; (any_goals (walk_at "t")); done)
  | (show TV _ _ _ _ _ _ _; refine' tv_e ?_; (any_goals (walk_at "x")); done))
/-! ### growth_of -/
noncomputable def rtM (T : Lay) (t : Tx) (U : List Nat) : Nat := mx 0 ((rch T t U).map fun c => (rtn T U c).length)
noncomputable def cyM (T : Lay) (t : Tx) (U : List Nat) : Nat := mx 1 ((rch T t U).map (cyc T U))
def expS : Str := "exponential"
noncomputable def grD (T : Lay) (t : Tx) (U : List Nat) : PyData := if 1 < rtM T t U then .str expS else .int ((cyM T t U - 1 : Nat))
section
variable {P : Program} {w : World} {K : PySem.W.Frag} {mg : Str → Option Value} {base : Heap}
inductive FGrowthOf : List PyData → PyData → Prop
  | mk {T : Lay} {t : Tx} {U : List Nat} (h : FewT T U) (hs : ShortT T U) (ht : ∀ c ∈ t, c ∈ U) : FGrowthOf [dK (tKv T), dS t] (grD T t U)
/-! ### growth -/
theorem short_res {Ls : List Lay} (h : SOk Ls) (hl : Ls.length ≤ 6) (U : List Nat) : ShortT (res Ls) U := fun c _ => by
  rw [w1_res]
  have h1 := (wS_len h [c]).2
  have h2 := pow6 hl
  simp at h1
  omega
end
end Fc
end
section
namespace Fc
open PySem PySem.Spec PyProof.Rows L2 Dl
open Evl (Ex)
local macro_rules | `(tactic| walk_at "v") => `(tactic| first | exact ev_v 0 | exact ev_v 1 | exact ev_v 2 | exact ev_v 3 | exact ev_v 4 | exact ev_v 5 | exact ev_v 6 | exact ev_v 7 | exact ev_v 8 | exact ev_v 9 | exact ev_v 10 | exact ev_v 11 | exact ev_v 12 | exact ev_v 13 | exact ev_v 14 | exact ev_v 15 | exact ev_v 16)
local macro_rules | `(tactic| walk_at "side") => `(tactic| first | assumption | rfl | decide | omega | (simp only [List.length_map, List.length_append, List.length_cons, List.length_nil, List.length_singleton] at *; omega))
local macro_rules | `(tactic| walk_at "ck") => `(tactic| (constructor <;> walk_at "side"))
local macro_rules | `(tactic| walk_at "add") => `(tactic| first | exact AddK.nat _ _ | exact AddK.nat1 _ | exact AddK.one _ | exact AddK.int _ _ | (refine AddK.str ?_; walk_at "side") | (refine AddK.lstM ?_; walk_at "side") | (refine AddK.tupM ?_; walk_at "side") | (refine AddK.lst ?_; walk_at "side") | (refine AddK.tup ?_; walk_at "side"))
local macro_rules | `(tactic| walk_at "mul") => `(tactic| first | (refine MulK.nat _ _ ?_; walk_at "side") | (refine MulK.int _ _ ?_; walk_at "side") | (refine MulK.str ?_ ?_ <;> walk_at "side") | (refine MulK.lst ?_ ?_ <;> walk_at "side"))
local macro_rules | `(tactic| walk_at "eq") => `(tactic| first | exact EqK.nat _ _ | exact EqK.int _ _ | exact EqK.str _ _ | exact EqK.bool _ _ | exact EqK.nonS _ | exact EqK.strN _ | exact EqK.intS _ _ | exact EqK.strI _ _ | exact EqK.nonI _ | exact EqK.intN _ | exact EqK.nonN | (refine EqK.gen ?_ ?_ ?_ <;> walk_at "side"))
local macro_rules | `(tactic| walk_at "lt") => `(tactic| first | exact LtK.nat _ _ | exact LtK.int _ _ | exact LtK.str _ _)
local macro_rules | `(tactic| walk_at "le") => `(tactic| first | exact LeK.nat _ _ | exact LeK.int _ _)
local macro_rules | `(tactic| walk_at "len") => `(tactic| first | (refine LenK.str ?_; walk_at "side") | exact LenK.lstM _ | exact LenK.tupM _ | exact LenK.lst _ | exact LenK.tup _)
local macro_rules | `(tactic| walk_at "ix") => `(tactic| first | (refine IxK.lst ?_; first | rfl | assumption) | (refine IxK.tup ?_; first | rfl | assumption) | (refine IxK.lN ?_; first | rfl | assumption) | (refine IxK.tN ?_; first | rfl | assumption) | (refine IxK.sN ?_ ?_ <;> walk_at "side"))
local macro_rules | `(tactic| walk_at "get") => `(tactic| first | exact GetK.mk _ _ _)
local macro_rules | `(tactic| walk_at "sl") => `(tactic| first | exact SlK.tFrom _ _ | exact SlK.tTo _ _ | exact SlK.lFrom _ _ | exact SlK.lTo _ _ | (refine SlK.sFrom _ _ ?_; walk_at "side") | (refine SlK.sTo _ _ ?_; walk_at "side") | (refine SlK.sMid _ _ _ ?_; walk_at "side") | exact SlK.tup _ _ _ | exact SlK.lst _ _ _ | (refine SlK.str ?_; walk_at "side"))
local macro_rules | `(tactic| walk_at "lit") => `(tactic| first | exact ev_strE (y := sL []) (by decide +kernel))
local macro_rules | `(tactic| walk_at "op") => `(tactic| (show OpI _ _ _ _ _ _ _; first | exact op_none | (refine' op_some ?_; (any_goals (walk_at "x")); done)))
local macro_rules | `(tactic| walk_at "blk") => `(tactic| exact blkOk_by (by kernel_rfl))
local macro_rules | `(tactic| walk_at "il") => `(tactic| first
  | (refine' il_tup ?_; (any_goals (walk_at "x")); done)
  | (refine' il_list ?_; (any_goals (walk_at "x")); done)
  | (refine' il_str ?_; (any_goals (walk_at "x")); done))
local macro_rules | `(tactic| walk_at "xs") => `(tactic| (show AV _ _ _ _ _ _ _; first | exact a_nil | (refine' a_cons ?_ ?_; (any_goals (walk_at "x")); (any_goals (walk_at "xs")); done)))
local macro_rules | `(tactic| walk_at "u") => `(tactic| (refine' x_call (by assumption) ?_ ?_ (by assumption); (any_goals (walk_at "xs")); (any_goals (walk_at "ck")); done))
local macro_rules | `(tactic| walk_at "x") => `(tactic| first
  | (show EV _ _ (Expr.Name _ _) _ _ _ _; walk_at "v")
  | (show EV _ _ (Expr.Constant _ _ _) _ _ _ _; first | exact ev_int | exact ev_bl | exact ev_non | walk_at "lit")
  | (show EV _ _ (Expr.BinOp _ Operator.Add _ _) _ _ _ _; refine' x_add ?_ ?_ ?_; (any_goals (walk_at "x")); (any_goals (walk_at "add")); done)
  | (show EV _ _ (Expr.BinOp _ Operator.Sub _ _) _ _ _ _; refine' x_sub ?_ ?_; (any_goals (walk_at "x")); done)
  | (show EV _ _ (Expr.BinOp _ Operator.Mult _ _) _ _ _ _; refine' x_mul ?_ ?_ ?_; (any_goals (walk_at "x")); (any_goals (walk_at "mul")); done)
  | (show EV _ _ (Expr.Call (Expr.Attribute _ "get" _) _ _ _) _ _ _ _; refine' x_get ?_ ?_ ?_ ?_ (by assumption); (any_goals (walk_at "x")); (any_goals (walk_at "get")); done)
  | (show EV _ _ (Expr.Call (Expr.Name "len" _) _ _ _) _ _ _ _; refine' x_len ?_ ?_ (by assumption); (any_goals (walk_at "x")); (any_goals (walk_at "len")); done)
  | (show EV _ _ (Expr.Call (Expr.Name _ _) _ _ _) _ _ _ _; walk_at "u")
  | (show EV _ _ (Expr.Subscript _ (Expr.Slice _ _ _ _) _) _ _ _ _; refine' x_sl ?_ ?_ ?_ ?_; (any_goals (walk_at "x")); (any_goals (walk_at "op")); (any_goals (walk_at "sl")); done)
  | (show EV _ _ (Expr.Subscript _ _ _) _ _ _ _; refine' x_ix ?_ ?_ ?_; (any_goals (walk_at "x")); (any_goals (walk_at "ix")); done)
  | (show EV _ _ (Expr.Tuple _ _ _) _ _ _ _; refine' x_tup ?_; (any_goals (walk_at "xs")); done)
  | (show EV _ _ (Expr.List _ _) _ _ _ _; refine' x_lst ?_; (any_goals (walk_at "xs")); done)
  | (show EV _ _ (Expr.Compare _ [CmpOp.Eq] _ _) _ _ _ _; refine' x_eq ?_ ?_ ?_ (by assumption); (any_goals (walk_at "x")); (any_goals (walk_at "eq")); done)
  | (show EV _ _ (Expr.Compare _ [CmpOp.NotEq] _ _) _ _ _ _; refine' x_ne ?_ ?_ ?_ (by assumption); (any_goals (walk_at "x")); (any_goals (walk_at "eq")); done)
  | (show EV _ _ (Expr.Compare _ [CmpOp.Lt] _ _) _ _ _ _; refine' x_lt ?_ ?_ ?_; (any_goals (walk_at "x")); (any_goals (walk_at "lt")); done)
  | (show EV _ _ (Expr.Compare _ [CmpOp.Gt] _ _) _ _ _ _; refine' x_gt ?_ ?_ ?_; (any_goals (walk_at "x")); (any_goals (walk_at "le")); done)
  | (show EV _ _ (Expr.Compare _ [CmpOp.LtE] _ _) _ _ _ _; refine' x_le ?_ ?_ ?_; (any_goals (walk_at "x")); (any_goals (walk_at "le")); done)
  | (show EV _ _ (Expr.UnaryOp _ _ _) _ _ _ _; refine' ev_not ?_; (any_goals (walk_at "x")); done))
local macro_rules | `(tactic| walk_at "t") => `(tactic| first
  | (show TV _ _ (Expr.Compare _ [CmpOp.Eq] _ _) _ _ _ _; refine' t_eq ?_ ?_ ?_ (by assumption); (any_goals (walk_at "x")); (any_goals (walk_at "eq")); done)
  | (show TV _ _ (Expr.Compare _ [CmpOp.NotEq] _ _) _ _ _ _; refine' t_ne ?_ ?_ ?_ (by assumption); (any_goals (walk_at "x")); (any_goals (walk_at "eq")); done)
  | (show TV _ _ (Expr.Compare _ [CmpOp.Lt] _ _) _ _ _ _; refine' t_lt ?_ ?_ ?_; (any_goals (walk_at "x")); (any_goals (walk_at "lt")); done)
  | (show TV _ _ (Expr.Compare _ [CmpOp.Gt] _ _) _ _ _ _; refine' t_gt ?_ ?_ ?_; (any_goals (walk_at "x")); (any_goals (walk_at "le")); done)
  | (show TV _ _ (Expr.Compare _ [CmpOp.LtE] _ _) _ _ _ _; refine' t_le ?_ ?_ ?_; (any_goals (walk_at "x")); (any_goals (walk_at "le")); done)
  | (show TV _ _ (Expr.Compare _ [CmpOp.Is] _ _) _ _ _ _; refine' t_isN ?_; (any_goals (walk_at "x")); done)
  | (show TV _ _ (Expr.Compare _ [CmpOp.IsNot] _ _) _ _ _ _; refine' t_notN ?_; (any_goals (walk_at "x")); done)
  | (show TV _ _ (Expr.UnaryOp UnaryOp.Not _ _) _ _ _ _; refine' tv_not ?_; (any_goals (walk_at "t")); done)
  | (show TV _ _ _ _ _ _ _; refine' tv_e ?_; (any_goals (walk_at "x")); done))
theorem ints_of {G : Hp} : ∀ {vs : List V} {ns : List Int}, DPs G vs (ns.map PyData.int) → vs = ns.map V.int
  | _, [], h => by cases h; rfl
  | _, n :: ns, h => by
    cases h with
    | cons h t => cases h; rw [ints_of t]; rfl
/-- xs.index(m) of a list of ours, ints -/
theorem ev_indexI (j : Nat) {X : Cx} {R : Addr → Prop} {a f : Expr} {ss : List Kd} {O O1 O2 : Store} {pos : Pos} {p : Addr} {ns : List Int} {m : Int} {i : Nat} {apos : Pos} (ha : EV X R a ss O (.val (.ref p)) O1) (hf : EV X R f ss O1 (.dat (.int m)) O2) (hj1 : O1[j]? = some (p, .ol (ns.map PyData.int))) (hj : O2[j]? = some (p, .ol (ns.map PyData.int))) (h1 : ns[i]? = some m) (h2 : ∀ k, k < i → ns[k]? ≠ some m)
    (hbase : attributeBase a "index" X.env (eval a X.env) = eval a X.env := by rfl)
    (hfew : ((backTo pos (starEach [f] X.env)).all (fun x => !x.1) && (backToKw pos (keywordEach [] X.env)).all (fun x => x.1.isSome) && decide ([f].length + ([] : List Keyword).length + (if ([] : List Keyword).isEmpty then 0 else 1) < 30)) = true := by rfl)
    (hline : (apos.endLine == pos.line) = true := by rfl) (hs : starEach [f] X.env = (false, eval f X.env) :: starEach [] X.env := by exact star_ne rfl) : EV X R (.Call (.Attribute a "index" apos) [f] [] pos) ss O (.dat (.int (i : Nat))) O2 := fun G0 H0 G H σ S L Q q =>
  wE_of (pe_bm PySem.F.plainAttrs_list PySem.F.slot_list_index PySem.F.type_list_index mt_index peW (pa_cons peW pa_nil hs) hbase hfew hline hs) (ha G0 H0 G H σ S L _ fun G1 H1 v k1 O3 S1 e1 r1 ⟨h3, h4⟩ => by
    subst h3 h4
    have : v = .ref p := r1
    subst this
    obtain ⟨⟨vs, hv, rv⟩, _, _⟩ := S1.ob _ (List.mem_of_getElem? hj1)
    refine ⟨.inl ⟨rfl, vs, .of hv⟩, ?_⟩
    refine hf G0 H0 G1 H1 σ S1 L _ fun G2 H2 v2 k2 O4 S2 e2 r2 ⟨h5, h6⟩ => ?_
    subst h5 h6
    obtain ⟨⟨vs, hv, rv⟩, _, _⟩ := S2.ob _ (List.mem_of_getElem? hj)
    have ev := ints_of rv
    subst ev
    cases r2
    refine ⟨p, ns.map V.int, .int m, i, .int m, rfl, rfl, .of hv, rfl, by simp [flatV], by rw [List.getElem?_map, h1]; rfl, by simp [eqV], fun k z' hk hz => ?_, q.d S2 (e1.trans e2) (DP.int _) ⟨rfl, rfl⟩⟩
    rw [List.getElem?_map] at hz
    cases e : ns[k]? with
    | none => rw [e] at hz; cases hz
    | some y =>
      rw [e] at hz
      cases hz
      have : y ≠ m := fun e2 => h2 k hk (e2 ▸ e)
      simp [eqV, this])
/-! ### settled_after -/
def ln (T : Lay) (t : Tx) (n : Nat) : Nat := (wR T n t).length
def sett (T : Lay) (t : Tx) (H : Nat) : Nat := (List.range (H + 1)).findIdx fun j => decide (ln T t j = ln T t H)
theorem sett_spec (T : Lay) (t : Tx) (H : Nat) : sett T t H ≤ H ∧ ln T t (sett T t H) = ln T t H ∧ ∀ k, k < sett T t H → ln T t k ≠ ln T t H := by
  have hlt : sett T t H < (List.range (H + 1)).length := List.findIdx_lt_length_of_exists ⟨H, by simp, by simp⟩
  rw [List.length_range] at hlt
  have h1 := List.findIdx_getElem (p := fun j => decide (ln T t j = ln T t H)) (xs := List.range (H + 1)) (w := by rw [List.length_range]; exact hlt)
  rw [List.getElem_range] at h1
  refine ⟨by omega, of_decide_eq_true h1, fun k hk e => ?_⟩
  have h2 := List.not_of_lt_findIdx (p := fun j => decide (ln T t j = ln T t H)) (xs := List.range (H + 1)) hk
  rw [List.getElem_range] at h2
  simp [e] at h2
noncomputable def setD (T : Lay) (t : Tx) (U : List Nat) : PyData := if 1 < rtM T t U ∨ cyM T t U - 1 ≠ 0 then .none else .int (sett T t ((rch T t U).length + 1) : Nat)
section
variable {P : Program} {w : World} {K : PySem.W.Frag} {mg : Str → Option Value} {base : Heap}
inductive FSettled : List PyData → PyData → Prop
  | mk {Ls : List Lay} {t : Tx} {U : List Nat} (h : SOk Ls) (hl : Ls.length ≤ 5) (ht : TOk t) (hlt : t.length ≤ 200) (hU : FewT (res Ls) U) (hu : ∀ c ∈ t, c ∈ U) : FSettled [stkD Ls, dS t] (setD (res Ls) t U)
theorem grD_eq (T : Lay) (t : Tx) (U : List Nat) : EqK (grD T t U) (.int 0) (!decide (1 < rtM T t U ∨ cyM T t U - 1 ≠ 0)) := by
  unfold grD
  by_cases h : 1 < rtM T t U
  · rw [if_pos h, decide_eq_true (Or.inl h)]
    exact .strI 0 expS
  · rw [if_neg h]
    have e : (!decide (1 < rtM T t U ∨ cyM T t U - 1 ≠ 0)) = decide (((cyM T t U - 1 : Nat) : Int) = 0) := by
      by_cases g : cyM T t U - 1 = 0
      · simp [h, g]
      · have : ¬ (((cyM T t U - 1 : Nat) : Int) = 0) := by omega
        rw [decide_eq_true (Or.inr g), decide_eq_false this]
        rfl
    rw [e]
    exact .int _ _
end
end Fc
end
section
namespace Fc
open PySem PySem.Spec PyProof.Rows L2 Dl
open Evl (Ex)
local macro_rules | `(tactic| walk_at "v") => `(tactic| first | exact ev_v 0 | exact ev_v 1 | exact ev_v 2 | exact ev_v 3 | exact ev_v 4 | exact ev_v 5 | exact ev_v 6 | exact ev_v 7 | exact ev_v 8 | exact ev_v 9 | exact ev_v 10 | exact ev_v 11 | exact ev_v 12 | exact ev_v 13 | exact ev_v 14 | exact ev_v 15 | exact ev_v 16)
local macro_rules | `(tactic| walk_at "side") => `(tactic| first | assumption | rfl | decide | omega | (simp only [List.length_map, List.length_append, List.length_cons, List.length_nil, List.length_singleton] at *; omega))
local macro_rules | `(tactic| walk_at "ck") => `(tactic| (constructor <;> walk_at "side"))
local macro_rules | `(tactic| walk_at "add") => `(tactic| first | exact AddK.nat _ _ | exact AddK.nat1 _ | exact AddK.one _ | exact AddK.int _ _ | (refine AddK.str ?_; walk_at "side") | (refine AddK.lstM ?_; walk_at "side") | (refine AddK.tupM ?_; walk_at "side") | (refine AddK.lst ?_; walk_at "side") | (refine AddK.tup ?_; walk_at "side"))
local macro_rules | `(tactic| walk_at "mul") => `(tactic| first | (refine MulK.nat _ _ ?_; walk_at "side") | (refine MulK.int _ _ ?_; walk_at "side") | (refine MulK.str ?_ ?_ <;> walk_at "side") | (refine MulK.lst ?_ ?_ <;> walk_at "side"))
local macro_rules | `(tactic| walk_at "eq") => `(tactic| first | exact EqK.nat _ _ | exact EqK.int _ _ | exact EqK.str _ _ | exact EqK.bool _ _ | exact EqK.nonS _ | exact EqK.strN _ | exact EqK.intS _ _ | exact EqK.strI _ _ | exact EqK.nonI _ | exact EqK.intN _ | exact EqK.nonN | (refine EqK.gen ?_ ?_ ?_ <;> walk_at "side"))
local macro_rules | `(tactic| walk_at "lt") => `(tactic| first | exact LtK.nat _ _ | exact LtK.int _ _ | exact LtK.str _ _)
local macro_rules | `(tactic| walk_at "le") => `(tactic| first | exact LeK.nat _ _ | exact LeK.int _ _)
local macro_rules | `(tactic| walk_at "len") => `(tactic| first | (refine LenK.str ?_; walk_at "side") | exact LenK.lstM _ | exact LenK.tupM _ | exact LenK.lst _ | exact LenK.tup _)
local macro_rules | `(tactic| walk_at "ix") => `(tactic| first | (refine IxK.lst ?_; first | rfl | assumption) | (refine IxK.tup ?_; first | rfl | assumption) | (refine IxK.lN ?_; first | rfl | assumption) | (refine IxK.tN ?_; first | rfl | assumption) | (refine IxK.sN ?_ ?_ <;> walk_at "side"))
local macro_rules | `(tactic| walk_at "get") => `(tactic| first | exact GetK.mk _ _ _)
local macro_rules | `(tactic| walk_at "sl") => `(tactic| first | exact SlK.tFrom _ _ | exact SlK.tTo _ _ | exact SlK.lFrom _ _ | exact SlK.lTo _ _ | (refine SlK.sFrom _ _ ?_; walk_at "side") | (refine SlK.sTo _ _ ?_; walk_at "side") | (refine SlK.sMid _ _ _ ?_; walk_at "side") | exact SlK.tup _ _ _ | exact SlK.lst _ _ _ | (refine SlK.str ?_; walk_at "side"))
local macro_rules | `(tactic| walk_at "lit") => `(tactic| first | exact ev_strE (y := sL []) (by decide +kernel))
local macro_rules | `(tactic| walk_at "op") => `(tactic| (show OpI _ _ _ _ _ _ _; first | exact op_none | (refine' op_some ?_; (any_goals (walk_at "x")); done)))
local macro_rules | `(tactic| walk_at "blk") => `(tactic| exact blkOk_by (by kernel_rfl))
local macro_rules | `(tactic| walk_at "il") => `(tactic| first
  | (refine' il_tup ?_; (any_goals (walk_at "x")); done)
  | (refine' il_list ?_; (any_goals (walk_at "x")); done)
  | (refine' il_str ?_; (any_goals (walk_at "x")); done))
local macro_rules | `(tactic| walk_at "xs") => `(tactic| (show AV _ _ _ _ _ _ _; first | exact a_nil | (refine' a_cons ?_ ?_; (any_goals (walk_at "x")); (any_goals (walk_at "xs")); done)))
local macro_rules | `(tactic| walk_at "u") => `(tactic| (refine' x_call (by assumption) ?_ ?_ (by assumption); (any_goals (walk_at "xs")); (any_goals (walk_at "ck")); done))
local macro_rules | `(tactic| walk_at "x") => `(tactic| first
  | (show EV _ _ (Expr.Name _ _) _ _ _ _; walk_at "v")
  | (show EV _ _ (Expr.Constant _ _ _) _ _ _ _; first | exact ev_int | exact ev_bl | exact ev_non | walk_at "lit")
  | (show EV _ _ (Expr.BinOp _ Operator.Add _ _) _ _ _ _; refine' x_add ?_ ?_ ?_; (any_goals (walk_at "x")); (any_goals (walk_at "add")); done)
  | (show EV _ _ (Expr.BinOp _ Operator.Sub _ _) _ _ _ _; refine' x_sub ?_ ?_; (any_goals (walk_at "x")); done)
  | (show EV _ _ (Expr.BinOp _ Operator.Mult _ _) _ _ _ _; refine' x_mul ?_ ?_ ?_; (any_goals (walk_at "x")); (any_goals (walk_at "mul")); done)
  | (show EV _ _ (Expr.Call (Expr.Attribute _ "get" _) _ _ _) _ _ _ _; refine' x_get ?_ ?_ ?_ ?_ (by assumption); (any_goals (walk_at "x")); (any_goals (walk_at "get")); done)
  | (show EV _ _ (Expr.Call (Expr.Name "len" _) _ _ _) _ _ _ _; refine' x_len ?_ ?_ (by assumption); (any_goals (walk_at "x")); (any_goals (walk_at "len")); done)
  | (show EV _ _ (Expr.Call (Expr.Name _ _) _ _ _) _ _ _ _; walk_at "u")
  | (show EV _ _ (Expr.Subscript _ (Expr.Slice _ _ _ _) _) _ _ _ _; refine' x_sl ?_ ?_ ?_ ?_; (any_goals (walk_at "x")); (any_goals (walk_at "op")); (any_goals (walk_at "sl")); done)
  | (show EV _ _ (Expr.Subscript _ _ _) _ _ _ _; refine' x_ix ?_ ?_ ?_; (any_goals (walk_at "x")); (any_goals (walk_at "ix")); done)
  | (show EV _ _ (Expr.Tuple _ _ _) _ _ _ _; refine' x_tup ?_; (any_goals (walk_at "xs")); done)
  | (show EV _ _ (Expr.List _ _) _ _ _ _; refine' x_lst ?_; (any_goals (walk_at "xs")); done)
  | (show EV _ _ (Expr.Compare _ [CmpOp.Eq] _ _) _ _ _ _; refine' x_eq ?_ ?_ ?_ (by assumption); (any_goals (walk_at "x")); (any_goals (walk_at "eq")); done)
  | (show EV _ _ (Expr.Compare _ [CmpOp.NotEq] _ _) _ _ _ _; refine' x_ne ?_ ?_ ?_ (by assumption); (any_goals (walk_at "x")); (any_goals (walk_at "eq")); done)
  | (show EV _ _ (Expr.Compare _ [CmpOp.Lt] _ _) _ _ _ _; refine' x_lt ?_ ?_ ?_; (any_goals (walk_at "x")); (any_goals (walk_at "lt")); done)
  | (show EV _ _ (Expr.Compare _ [CmpOp.Gt] _ _) _ _ _ _; refine' x_gt ?_ ?_ ?_; (any_goals (walk_at "x")); (any_goals (walk_at "le")); done)
  | (show EV _ _ (Expr.Compare _ [CmpOp.LtE] _ _) _ _ _ _; refine' x_le ?_ ?_ ?_; (any_goals (walk_at "x")); (any_goals (walk_at "le")); done)
  | (show EV _ _ (Expr.UnaryOp _ _ _) _ _ _ _; refine' ev_not ?_; (any_goals (walk_at "x")); done))
local macro_rules | `(tactic| walk_at "t") => `(tactic| first
  | (show TV _ _ (Expr.Compare _ [CmpOp.Eq] _ _) _ _ _ _; refine' t_eq ?_ ?_ ?_ (by assumption); (any_goals (walk_at "x")); (any_goals (walk_at "eq")); done)
  | (show TV _ _ (Expr.Compare _ [CmpOp.NotEq] _ _) _ _ _ _; refine' t_ne ?_ ?_ ?_ (by assumption); (any_goals (walk_at "x")); (any_goals (walk_at "eq")); done)
  | (show TV _ _ (Expr.Compare _ [CmpOp.Lt] _ _) _ _ _ _; refine' t_lt ?_ ?_ ?_; (any_goals (walk_at "x")); (any_goals (walk_at "lt")); done)
  | (show TV _ _ (Expr.Compare _ [CmpOp.Gt] _ _) _ _ _ _; refine' t_gt ?_ ?_ ?_; (any_goals (walk_at "x")); (any_goals (walk_at "le")); done)
  | (show TV _ _ (Expr.Compare _ [CmpOp.LtE] _ _) _ _ _ _; refine' t_le ?_ ?_ ?_; (any_goals (walk_at "x")); (any_goals (walk_at "le")); done)
  | (show TV _ _ (Expr.Compare _ [CmpOp.Is] _ _) _ _ _ _; refine' t_isN ?_; (any_goals (walk_at "x")); done)
  | (show TV _ _ (Expr.Compare _ [CmpOp.IsNot] _ _) _ _ _ _; refine' t_notN ?_; (any_goals (walk_at "x")); done)
  | (show TV _ _ (Expr.UnaryOp UnaryOp.Not _ _) _ _ _ _; refine' tv_not ?_; (any_goals (walk_at "t")); done)
  | (show TV _ _ _ _ _ _ _; refine' tv_e ?_; (any_goals (walk_at "x")); done))
/-! ### never_longer -/
def nlB (L M : Lay) : Bool := (dsg (L.map (·.1) ++ M.map (·.1))).all fun c => decide ((w1 L c).length ≤ (w1 M c).length)
section
variable {P : Program} {w : World} {K : PySem.W.Frag} {mg : Str → Option Value} {base : Heap}
inductive FNeverL : List PyData → PyData → Prop
  | mk {Ls Ms : List Lay} (h : SOk Ls) (hl : Ls.length ≤ 5) (g : SOk Ms) (gl : Ms.length ≤ 5) : FNeverL [stkD Ls, stkD Ms] (.bool (nlB (res Ls) (res Ms)))
end
end Fc
end
section
namespace Fc
open PySem PySem.Spec PyProof.Rows L2 Dl
open Evl (Ex)
/-! ### lengths behind many runs, no growth -/
structure Full (T : Lay) (U : List Nat) : Prop extends FewT T U where
  ne : ∀ c ∈ U, 1 ≤ (w1 T c).length
theorem onc_iff {T : Lay} {U : List Nat} (h : FewT T U) {c : Nat} (hc : c ∈ U) : onc T U c = true ↔ Rch T (w1 T c) c := by
  unfold onc
  rw [decide_eq_true_eq, rch_mem (h.w hc)]
theorem rch_first {T : Lay} {c x : Nat} (r : Rch T [c] x) : x = c ∨ Rch T (w1 T c) x := by
  induction r with
  | base h => exact .inl (List.mem_singleton.mp h)
  | step _ hx ih =>
    rcases ih with rfl | ih
    · exact .inr (.base hx)
    · exact .inr (.step ih hx)
theorem cyc_ge {T : Lay} {U : List Nat} (h : Full T U) : ∀ (n c : Nat), c ∈ U → (rch T [c] U).length ≤ n → 1 ≤ cyc T U c
  | 0, c, hc, hn => absurd (List.length_pos_of_mem (rch_in h.toFewT hc)) (by omega)
  | n + 1, c, hc, hn => by
    rw [cyc_eq h.toFewT hc]
    by_cases o : onc T U c = true
    · rw [if_pos o]; omega
    · obtain ⟨y, hy⟩ : ∃ y, y ∈ w1 T c := List.exists_mem_of_length_pos (h.ne c hc)
      have hyc : y ≠ c := fun e => o ((onc_iff h.toFewT hc).mpr (.base (e ▸ hy)))
      have hb : y ∈ beh T U c := by
        unfold beh own
        rw [if_neg o]
        simp [hy, hyc]
      obtain ⟨hyU, hlt⟩ := beh_lt h.toFewT hc hb
      have h1 := cyc_ge h n y hyU (by omega)
      have h2 := (mx_ge ((beh T U c).map (cyc T U)) 0).2 _ (List.mem_map_of_mem (f := cyc T U) hb)
      omega
theorem cyc_le {T : Lay} {U : List Nat} (h : FewT T U) : ∀ (n c : Nat), c ∈ U → (rch T [c] U).length ≤ n → cyc T U c ≤ (rch T [c] U).length
  | 0, c, hc, hn => absurd (List.length_pos_of_mem (rch_in h hc)) (by omega)
  | n + 1, c, hc, hn => by
    rw [cyc_eq h hc]
    have hp := List.length_pos_of_mem (rch_in h hc)
    have h1 : mx 0 ((beh T U c).map (cyc T U)) ≤ (rch T [c] U).length - 1 := mx_le (Nat.zero_le _) fun a ha => by
      obtain ⟨y, hy, rfl⟩ := List.mem_map.mp ha
      obtain ⟨hyU, hlt⟩ := beh_lt h hc hy
      have := cyc_le h n y hyU (by omega)
      omega
    split <;> omega
/-- no growth from t -/
structure Calm (T : Lay) (U : List Nat) (t : Tx) : Prop where
  rt : ∀ c, Rch T t c → (rtn T U c).length ≤ 1
  cy : ∀ c, Rch T t c → cyc T U c ≤ 1
theorem Calm.sub {T : Lay} {U : List Nat} {t s : Tx} (h : Calm T U t) (hs : ∀ c ∈ s, Rch T t c) : Calm T U s := ⟨fun c r => h.rt c (r.trans hs), fun c r => h.cy c (r.trans hs)⟩
/-- on a cycle: one sign, which is on a cycle, too -/
theorem calm_on {T : Lay} {U : List Nat} (h : Full T U) {t : Tx} (hc : Calm T U t) {c : Nat} (hr : Rch T t c) (hU : c ∈ U) (o : onc T U c = true) : (w1 T c).length = 1 ∧ ∀ x ∈ w1 T c, onc T U x = true := by
  have all : ∀ x ∈ w1 T c, Rch T [x] c := fun x hx => by
    apply Classical.byContradiction
    intro hn
    have hxU := h.cl c hU x hx
    have hxo : x ∉ own T U c := by
      unfold own
      rw [if_pos o]
      intro z
      have := (List.mem_filter.mp z).2
      rw [decide_eq_true_eq, rch_mem (h.toFewT.one hxU)] at this
      exact hn this
    have hco : c ∈ own T U c := by
      unfold own
      rw [if_pos o]
      exact List.mem_filter.mpr ⟨rch_in h.toFewT hU, by rw [decide_eq_true_eq]; exact rch_in h.toFewT hU⟩
    have hb : x ∈ beh T U c := List.mem_flatMap.mpr ⟨c, hco, List.mem_filter.mpr ⟨hx, by simp [hxo]⟩⟩
    have h1 := cyc_ge h _ x hxU (Nat.le_refl _)
    have h2 := (mx_ge ((beh T U c).map (cyc T U)) 0).2 _ (List.mem_map_of_mem (f := cyc T U) hb)
    have h3 := hc.cy c hr
    rw [cyc_eq h.toFewT hU, if_pos o] at h3
    omega
  refine ⟨?_, fun x hx => ?_⟩
  · have e : rtn T U c = w1 T c := by
      unfold rtn
      exact List.filter_eq_self.mpr fun x hx => by rw [decide_eq_true_eq, rch_mem (h.toFewT.one (h.cl c hU x hx))]; exact all x hx
    have h1 := hc.rt c hr
    rw [e] at h1
    have := h.ne c hU
    omega
  · have hxU := h.cl c hU x hx
    rw [onc_iff h.toFewT hxU]
    rcases rch_first (all x hx) with rfl | r
    · exact .base hx
    · exact .step r hx
theorem wR_app (T : Lay) : ∀ (n : Nat) (s t : Tx), wR T n (s ++ t) = wR T n s ++ wR T n t
  | 0, _, _ => rfl
  | n + 1, s, t => by show wL T (wR T n (s ++ t)) = _; rw [wR_app T n, wL_app]; rfl
theorem wR_step (T : Lay) : ∀ (n : Nat) (t : Tx), wR T (n + 1) t = wR T n (wL T t)
  | 0, _ => rfl
  | n + 1, t => by show wL T (wR T (n + 1) t) = _; rw [wR_step T n t]; rfl
theorem wR_mem {T : Lay} : ∀ (n : Nat) (t : Tx) (x : Nat), x ∈ wR T n t ↔ ∃ c ∈ t, x ∈ wR T n [c]
  | n, [], x => by
    have : wR T n [] = [] := by induction n with | zero => rfl | succ n ih => show wL T (wR T n []) = _; rw [ih]; rfl
    rw [this]; simp
  | n, c :: t, x => by
    have e : c :: t = [c] ++ t := rfl
    rw [e, wR_app, List.mem_append, wR_mem n t x]
    constructor
    · rintro (h | ⟨d, hd, h⟩)
      · exact ⟨c, by simp, h⟩
      · exact ⟨d, by simp [hd], h⟩
    · rintro ⟨d, hd, h⟩
      rcases List.mem_cons.mp hd with rfl | hd
      · exact .inl h
      · exact .inr ⟨d, by simpa using hd, h⟩
theorem wR_rch {T : Lay} {t : Tx} : ∀ (n : Nat) (x : Nat), x ∈ wR T n t → Rch T t x
  | 0, x, h => .base h
  | n + 1, x, h => by
    obtain ⟨c, hc, hx⟩ := List.mem_flatMap.mp (show x ∈ (wR T n t).flatMap (w1 T) from h)
    exact .step (wR_rch n c hc) hx
/-- behind as many runs as signs can be reached all signs are on cycles -/
theorem calm_far {T : Lay} {U : List Nat} (h : Full T U) {t : Tx} (hc : Calm T U t) : ∀ (n c : Nat), c ∈ U → Rch T t c → (rch T [c] U).length ≤ n → ∀ x ∈ wR T n [c], onc T U x = true
  | 0, c, hU, _, hn, _, _ => absurd (List.length_pos_of_mem (rch_in h.toFewT hU)) (by omega)
  | n + 1, c, hU, hr, hn, x, hx => by
    rw [wR_step, wL_one, wR_mem] at hx
    obtain ⟨y, hy, hx⟩ := hx
    have hyU := h.cl c hU y hy
    have hry : Rch T t y := .step hr hy
    by_cases o : onc T U c = true
    · -- on a cycle from the start
      have key : ∀ (m : Nat) (z : Nat), z ∈ U → Rch T t z → onc T U z = true → ∀ x ∈ wR T m [z], onc T U x = true := by
        intro m
        induction m with
        | zero => intro z _ _ oz x hx; rw [List.mem_singleton.mp hx]; exact oz
        | succ m ih =>
          intro z hz rz oz x hx
          rw [wR_step, wL_one, wR_mem] at hx
          obtain ⟨v, hv, hx⟩ := hx
          exact ih v (h.cl z hz v hv) (.step rz hv) ((calm_on h hc rz hz oz).2 v hv) x hx
      exact key n y hyU hry ((calm_on h hc hr hU o).2 y hy) x hx
    · have hlt : (rch T [y] U).length < (rch T [c] U).length := by
        have n1 : (c :: rch T [y] U).Nodup := List.nodup_cons.mpr ⟨fun z => o ((onc_iff h.toFewT hU).mpr (rch_w hy ((rch_mem (h.toFewT.one hyU)).mp z))), (rch_sorted _ _ _).imp fun h => Nat.ne_of_lt h⟩
        exact nd_le n1 (u := rch T [c] U) fun v hv => by
          rcases List.mem_cons.mp hv with rfl | hv
          · exact rch_in h.toFewT hU
          · exact (rch_mem (h.toFewT.one hU)).mpr (Rch.cons (.step .self hy) ((rch_mem (h.toFewT.one hyU)).mp hv))
      exact calm_far h hc n y hyU hry (by omega) x hx
theorem rch_sub_len {T : Lay} {U : List Nat} (h : FewT T U) {t s : Tx} (ht : ∀ c ∈ t, c ∈ U) (hs : ∀ c ∈ s, Rch T t c) : (rch T s U).length ≤ (rch T t U).length := by
  have hsU : ∀ c ∈ s, c ∈ U := fun c hc => (h.s ht).rch (hs c hc)
  exact nd_le ((rch_sorted T s U).imp fun h => Nat.ne_of_lt h) fun x hx => (rch_mem (h.s ht)).mpr (((rch_mem (h.s hsU)).mp hx).trans hs)
theorem wL_len1 {T : Lay} : ∀ {t : Tx}, (∀ c ∈ t, (w1 T c).length = 1) → (wL T t).length = t.length
  | [], _ => rfl
  | c :: t, h => by
    rw [wL_cons, List.length_append, h c List.mem_cons_self, wL_len1 fun x hx => h x (List.mem_cons_of_mem _ hx), List.length_cons]
    omega
theorem wL_mono {T : Lay} : ∀ {t : Tx}, (∀ c ∈ t, 1 ≤ (w1 T c).length) → t.length ≤ (wL T t).length
  | [], _ => Nat.le_refl _
  | c :: t, h => by
    rw [wL_cons, List.length_append, List.length_cons]
    have h1 := h c List.mem_cons_self
    have h2 := wL_mono (T := T) (t := t) fun x hx => h x (List.mem_cons_of_mem _ hx)
    omega
theorem ln_mono {T : Lay} {U : List Nat} (h : Full T U) {t : Tx} (ht : ∀ c ∈ t, c ∈ U) : ∀ {m n : Nat}, m ≤ n → ln T t m ≤ ln T t n := by
  intro m n
  induction n with
  | zero => intro l; rw [Nat.le_zero.mp l]; exact Nat.le_refl _
  | succ n ih =>
    intro l
    rcases Nat.lt_or_eq_of_le l with l | rfl
    · refine Nat.le_trans (ih (by omega)) ?_
      exact wL_mono fun c hc => h.ne c ((h.toFewT.s ht).rch (wR_rch n c hc))
    · exact Nat.le_refl _
/-- .. so that the length stays -/
theorem ln_stay {T : Lay} {U : List Nat} (h : Full T U) {t : Tx} (ht : ∀ c ∈ t, c ∈ U) (hc : Calm T U t) : ∀ (k : Nat), ln T t ((rch T t U).length + k) = ln T t (rch T t U).length
  | 0 => rfl
  | k + 1 => by
    rw [← ln_stay h ht hc k]
    show (wL T (wR T ((rch T t U).length + k) t)).length = (wR T ((rch T t U).length + k) t).length
    refine wL_len1 fun x hx => ?_
    have hxr := wR_rch _ x hx
    have hxU := (h.toFewT.s ht).rch hxr
    obtain ⟨c, hct, hx⟩ := (wR_mem _ t x).mp hx
    have hcU := ht c hct
    have hl : (rch T [c] U).length ≤ (rch T t U).length := rch_sub_len h.toFewT ht fun y hy => by rw [List.mem_singleton.mp hy]; exact .base hct
    have o := calm_far h hc ((rch T t U).length + k) c hcU (.base hct) (by omega) x hx
    exact (calm_on h hc hxr hxU o).1
theorem ln_far {T : Lay} {U : List Nat} (h : Full T U) {t : Tx} (ht : ∀ c ∈ t, c ∈ U) (hc : Calm T U t) {n : Nat} (hn : (rch T t U).length ≤ n) : ln T t n = ln T t (rch T t U).length := by
  have := ln_stay h ht hc (n - (rch T t U).length)
  rwa [Nat.add_sub_cancel' hn] at this
theorem ln_cons (T : Lay) (c : Nat) (t : Tx) (n : Nat) : ln T (c :: t) n = ln T [c] n + ln T t n := by
  show (wR T n ([c] ++ t)).length = _
  rw [wR_app, List.length_append]
  rfl
/-- the settling of a text: that of its signs, the latest -/
theorem sett_text {T : Lay} {U : List Nat} (h : Full T U) {t : Tx} (ht : ∀ c ∈ t, c ∈ U) (hc : Calm T U t) : sett T t ((rch T t U).length + 1) = mx 0 ((dsg t).map fun c => sett T [c] ((rch T [c] U).length + 1)) := by
  have one : ∀ c ∈ t, Calm T U [c] ∧ (∀ x ∈ [c], x ∈ U) ∧ (rch T [c] U).length ≤ (rch T t U).length := fun c hct =>
    ⟨hc.sub fun y hy => by rw [List.mem_singleton.mp hy]; exact .base hct, fun x hx => by rw [List.mem_singleton.mp hx]; exact ht c hct, rch_sub_len h.toFewT ht fun y hy => by rw [List.mem_singleton.mp hy]; exact .base hct⟩
  -- each sign: settled from its own number on
  have lim : ∀ c ∈ t, ∀ k, ln T [c] k = ln T [c] ((rch T t U).length + 1) ↔ sett T [c] ((rch T [c] U).length + 1) ≤ k := fun c hct k => by
    obtain ⟨h1, h2, h3⟩ := one c hct
    obtain ⟨s1, s2, s3⟩ := sett_spec T [c] ((rch T [c] U).length + 1)
    have e1 : ln T [c] ((rch T t U).length + 1) = ln T [c] ((rch T [c] U).length + 1) := by rw [ln_far h h2 h1 (by omega), ln_far h h2 h1 (by omega : (rch T [c] U).length ≤ (rch T [c] U).length + 1)]
    rw [e1]
    constructor
    · intro e
      apply Classical.byContradiction
      intro hn
      exact s3 k (by omega) e
    · intro hk
      have g1 := ln_mono h h2 hk
      rw [s2] at g1
      by_cases hk2 : (rch T [c] U).length + 1 ≤ k
      · rw [ln_far h h2 h1 (by omega : (rch T [c] U).length ≤ k), ln_far h h2 h1 (by omega : (rch T [c] U).length ≤ (rch T [c] U).length + 1)]
      · have g2 := ln_mono h h2 (by omega : k ≤ (rch T [c] U).length + 1)
        omega
  have sum : ∀ (s : Tx), (∀ c ∈ s, c ∈ t) → ∀ k, ln T s k = ln T s ((rch T t U).length + 1) → k ≤ (rch T t U).length + 1 → ∀ c ∈ s, ln T [c] k = ln T [c] ((rch T t U).length + 1) := by
    intro s
    induction s with
    | nil => exact fun _ _ _ _ c hc => nomatch hc
    | cons a s ih =>
      intro hs k e hk c hcs
      rw [ln_cons, ln_cons T a s] at e
      have m1 := ln_mono h (t := [a]) (fun x hx => by rw [List.mem_singleton.mp hx]; exact ht a (hs a List.mem_cons_self)) hk
      have m2 := ln_mono h (t := s) (fun x hx => ht x (hs x (List.mem_cons_of_mem _ hx))) hk
      rcases List.mem_cons.mp hcs with rfl | hcs
      · omega
      · exact ih (fun x hx => hs x (List.mem_cons_of_mem _ hx)) k (by omega) hk c hcs
  have sum2 : ∀ (s : Tx) (k : Nat), (∀ c ∈ s, ln T [c] k = ln T [c] ((rch T t U).length + 1)) → ln T s k = ln T s ((rch T t U).length + 1) := by
    intro s k
    induction s with
    | nil =>
      intro _
      have : ∀ n, wR T n [] = [] := fun n => by induction n with | zero => rfl | succ n ih => show wL T (wR T n []) = _; rw [ih]; rfl
      show (wR T _ []).length = (wR T _ []).length
      rw [this, this]
    | cons a s ih =>
      intro hs
      rw [ln_cons, ln_cons T a s, hs a List.mem_cons_self, ih fun x hx => hs x (List.mem_cons_of_mem _ hx)]
  obtain ⟨s1, s2, s3⟩ := sett_spec T t ((rch T t U).length + 1)
  refine Nat.le_antisymm ?_ (mx_le (Nat.zero_le _) fun a ha => ?_)
  · apply Classical.byContradiction
    intro hn
    refine s3 (mx 0 ((dsg t).map fun c => sett T [c] ((rch T [c] U).length + 1))) (by omega) (sum2 t _ fun c hct => (lim c hct _).mpr ?_)
    exact (mx_ge _ 0).2 _ (List.mem_map.mpr ⟨c, dsg_mem.mpr hct, rfl⟩)
  · obtain ⟨c, hct, rfl⟩ := List.mem_map.mp ha
    have hct := dsg_mem.mp hct
    exact (lim c hct _).mp (sum t (fun _ h => h) _ s2 s1 c hct)
/-! ### ranks -/
theorem rch_text {T : Lay} {U : List Nat} (h : FewT T U) {t : Tx} (ht : ∀ c ∈ t, c ∈ U) {x : Nat} : x ∈ rch T t U ↔ ∃ c ∈ t, x ∈ rch T [c] U := by
  rw [rch_mem (h.s ht)]
  constructor
  · intro r
    induction r with
    | base hc => exact ⟨_, hc, rch_in h (ht _ hc)⟩
    | step _ hx ih =>
      obtain ⟨c, hc, hy⟩ := ih
      exact ⟨c, hc, (rch_mem (h.one (ht c hc))).mpr (.step ((rch_mem (h.one (ht c hc))).mp hy) hx)⟩
  · rintro ⟨c, hc, hx⟩
    exact Rch.cons (.base hc) ((rch_mem (h.one (ht c hc))).mp hx)
theorem mx_text {T : Lay} {U : List Nat} (h : FewT T U) {t : Tx} (ht : ∀ c ∈ t, c ∈ U) (b : Nat) (f : Nat → Nat) : mx b ((rch T t U).map f) = mx b ((dsg t).map fun c => mx b ((rch T [c] U).map f)) := by
  refine Nat.le_antisymm (mx_le (mx_ge _ b).1 fun a ha => ?_) (mx_le (mx_ge _ b).1 fun a ha => ?_)
  · obtain ⟨x, hx, rfl⟩ := List.mem_map.mp ha
    obtain ⟨c, hc, hx⟩ := (rch_text h ht).mp hx
    exact Nat.le_trans ((mx_ge ((rch T [c] U).map f) b).2 _ (List.mem_map_of_mem (f := f) hx)) ((mx_ge _ b).2 _ (List.mem_map.mpr ⟨c, dsg_mem.mpr hc, rfl⟩))
  · obtain ⟨c, hc, rfl⟩ := List.mem_map.mp ha
    refine mx_le (mx_ge _ b).1 fun a ha => ?_
    obtain ⟨x, hx, rfl⟩ := List.mem_map.mp ha
    exact (mx_ge _ b).2 _ (List.mem_map_of_mem (f := f) ((rch_text h ht).mpr ⟨c, dsg_mem.mp hc, hx⟩))
/-- a number for a growth -/
noncomputable def rk (T : Lay) (t : Tx) (U : List Nat) : Nat := if 1 < rtM T t U then 100 else cyM T t U - 1
theorem cyM_le {T : Lay} {U : List Nat} (h : FewT T U) {t : Tx} (ht : ∀ c ∈ t, c ∈ U) : cyM T t U ≤ 63 := mx_le (by decide) fun a ha => by
  obtain ⟨x, hx, rfl⟩ := List.mem_map.mp ha
  have hxU := (h.s ht).rch ((rch_mem (h.s ht)).mp hx)
  have h1 := cyc_le h _ x hxU (Nat.le_refl _)
  have h2 := rch_len T [x] U
  have := h.few
  omega
theorem rk_le {T : Lay} {U : List Nat} (h : FewT T U) {t : Tx} (ht : ∀ c ∈ t, c ∈ U) : rk T t U ≤ 100 := by
  unfold rk
  have := cyM_le h ht
  split <;> omega
theorem rk_text {T : Lay} {U : List Nat} (h : FewT T U) {t : Tx} (ht : ∀ c ∈ t, c ∈ U) : rk T t U = mx 0 ((dsg t).map fun c => rk T [c] U) := by
  have e1 : rtM T t U = mx 0 ((dsg t).map fun c => rtM T [c] U) := mx_text h ht 0 _
  have e2 : cyM T t U = mx 1 ((dsg t).map fun c => cyM T [c] U) := mx_text h ht 1 _
  have one : ∀ c ∈ t, ∀ x ∈ [c], x ∈ U := fun c hc x hx => by rw [List.mem_singleton.mp hx]; exact ht c hc
  refine Nat.le_antisymm ?_ (mx_le (Nat.zero_le _) fun a ha => ?_)
  · unfold rk
    split
    · rename_i g
      rcases mx_mem ((dsg t).map fun c => rtM T [c] U) 0 with e | e
      · rw [e1, e] at g; omega
      · obtain ⟨c, hc, e⟩ := List.mem_map.mp e
        refine Nat.le_trans ?_ ((mx_ge _ 0).2 _ (List.mem_map.mpr ⟨c, hc, rfl⟩))
        rw [if_pos (by rw [e, ← e1]; exact g)]
        exact Nat.le_refl _
    · rename_i g
      rcases mx_mem ((dsg t).map fun c => cyM T [c] U) 1 with e | e
      · rw [e2, e]; omega
      · obtain ⟨c, hc, e⟩ := List.mem_map.mp e
        refine Nat.le_trans ?_ ((mx_ge _ 0).2 _ (List.mem_map.mpr ⟨c, hc, rfl⟩))
        rw [if_neg (by have := (mx_ge ((dsg t).map fun c => rtM T [c] U) 0).2 _ (List.mem_map.mpr ⟨c, hc, rfl⟩); omega)]
        omega
  · obtain ⟨c, hc, rfl⟩ := List.mem_map.mp ha
    have hct := dsg_mem.mp hc
    unfold rk
    have g1 := (mx_ge ((dsg t).map fun c => rtM T [c] U) 0).2 _ (List.mem_map.mpr ⟨c, hc, rfl⟩)
    have g2 := (mx_ge ((dsg t).map fun c => cyM T [c] U) 1).2 _ (List.mem_map.mpr ⟨c, hc, rfl⟩)
    have g3 := cyM_le h (one c hct)
    rw [← e1] at g1
    rw [← e2] at g2
    split <;> split <;> omega
/-- rank 0: no growth -/
theorem calm_rk {T : Lay} {U : List Nat} (h : FewT T U) {t : Tx} (ht : ∀ c ∈ t, c ∈ U) (e : rk T t U = 0) : Calm T U t := by
  unfold rk at e
  split at e
  · cases e
  · rename_i g
    refine ⟨fun c r => ?_, fun c r => ?_⟩
    · have := (mx_ge ((rch T t U).map fun c => (rtn T U c).length) 0).2 _ (List.mem_map.mpr ⟨c, (rch_mem (h.s ht)).mpr r, rfl⟩)
      have g : ¬ 1 < mx 0 ((rch T t U).map fun c => (rtn T U c).length) := g
      omega
    · have := (mx_ge ((rch T t U).map (cyc T U)) 1).2 _ (List.mem_map.mpr ⟨c, (rch_mem (h.s ht)).mpr r, rfl⟩)
      have e : mx 1 ((rch T t U).map (cyc T U)) - 1 = 0 := e
      omega
theorem setD_rk (T : Lay) (t : Tx) (U : List Nat) : setD T t U = if rk T t U = 0 then .int (sett T t ((rch T t U).length + 1) : Nat) else .none := by
  unfold setD rk
  by_cases g : 1 < rtM T t U
  · rw [if_pos (.inl g), if_pos g, if_neg (by decide)]
  · rw [if_neg g]
    by_cases z : cyM T t U - 1 = 0
    · rw [if_neg (by rw [not_or]; exact ⟨g, fun k => k z⟩), if_pos z]
    · rw [if_pos (.inr z), if_neg z]
theorem grD_rk (T : Lay) (t : Tx) (U : List Nat) : grD T t U = if 1 < rtM T t U then .str expS else .int (rk T t U : Nat) := by
  unfold grD rk
  split <;> rfl
end Fc
end
section
namespace Fc
open PySem PySem.Spec PyProof.Rows L2 Dl
open Evl (Ex)
local macro_rules | `(tactic| walk_at "v") => `(tactic| first | exact ev_v 0 | exact ev_v 1 | exact ev_v 2 | exact ev_v 3 | exact ev_v 4 | exact ev_v 5 | exact ev_v 6 | exact ev_v 7 | exact ev_v 8 | exact ev_v 9 | exact ev_v 10 | exact ev_v 11 | exact ev_v 12 | exact ev_v 13 | exact ev_v 14 | exact ev_v 15 | exact ev_v 16)
local macro_rules | `(tactic| walk_at "side") => `(tactic| first | assumption | rfl | decide | omega | (simp only [List.length_map, List.length_append, List.length_cons, List.length_nil, List.length_singleton] at *; omega))
local macro_rules | `(tactic| walk_at "ck") => `(tactic| (constructor <;> walk_at "side"))
local macro_rules | `(tactic| walk_at "add") => `(tactic| first | exact AddK.nat _ _ | exact AddK.nat1 _ | exact AddK.one _ | exact AddK.int _ _ | (refine AddK.str ?_; walk_at "side") | (refine AddK.lstM ?_; walk_at "side") | (refine AddK.tupM ?_; walk_at "side") | (refine AddK.lst ?_; walk_at "side") | (refine AddK.tup ?_; walk_at "side"))
local macro_rules | `(tactic| walk_at "mul") => `(tactic| first | (refine MulK.nat _ _ ?_; walk_at "side") | (refine MulK.int _ _ ?_; walk_at "side") | (refine MulK.str ?_ ?_ <;> walk_at "side") | (refine MulK.lst ?_ ?_ <;> walk_at "side"))
local macro_rules | `(tactic| walk_at "eq") => `(tactic| first | exact EqK.nat _ _ | exact EqK.int _ _ | exact EqK.str _ _ | exact EqK.bool _ _ | exact EqK.nonS _ | exact EqK.strN _ | exact EqK.intS _ _ | exact EqK.strI _ _ | exact EqK.nonI _ | exact EqK.intN _ | exact EqK.nonN | (refine EqK.gen ?_ ?_ ?_ <;> walk_at "side"))
local macro_rules | `(tactic| walk_at "lt") => `(tactic| first | exact LtK.nat _ _ | exact LtK.int _ _ | exact LtK.str _ _)
local macro_rules | `(tactic| walk_at "le") => `(tactic| first | exact LeK.nat _ _ | exact LeK.int _ _)
local macro_rules | `(tactic| walk_at "len") => `(tactic| first | (refine LenK.str ?_; walk_at "side") | exact LenK.lstM _ | exact LenK.tupM _ | exact LenK.lst _ | exact LenK.tup _)
local macro_rules | `(tactic| walk_at "ix") => `(tactic| first | (refine IxK.lst ?_; first | rfl | assumption) | (refine IxK.tup ?_; first | rfl | assumption) | (refine IxK.lN ?_; first | rfl | assumption) | (refine IxK.tN ?_; first | rfl | assumption) | (refine IxK.sN ?_ ?_ <;> walk_at "side"))
local macro_rules | `(tactic| walk_at "get") => `(tactic| first | exact GetK.mk _ _ _)
local macro_rules | `(tactic| walk_at "sl") => `(tactic| first | exact SlK.tFrom _ _ | exact SlK.tTo _ _ | exact SlK.lFrom _ _ | exact SlK.lTo _ _ | (refine SlK.sFrom _ _ ?_; walk_at "side") | (refine SlK.sTo _ _ ?_; walk_at "side") | (refine SlK.sMid _ _ _ ?_; walk_at "side") | exact SlK.tup _ _ _ | exact SlK.lst _ _ _ | (refine SlK.str ?_; walk_at "side"))
local macro_rules | `(tactic| walk_at "lit") => `(tactic| first | exact ev_strE (y := sL []) (by decide +kernel))
local macro_rules | `(tactic| walk_at "op") => `(tactic| (show OpI _ _ _ _ _ _ _; first | exact op_none | (refine' op_some ?_; (any_goals (walk_at "x")); done)))
local macro_rules | `(tactic| walk_at "blk") => `(tactic| exact blkOk_by (by kernel_rfl))
local macro_rules | `(tactic| walk_at "il") => `(tactic| first
  | (refine' il_tup ?_; (any_goals (walk_at "x")); done)
  | (refine' il_list ?_; (any_goals (walk_at "x")); done)
  | (refine' il_str ?_; (any_goals (walk_at "x")); done))
local macro_rules | `(tactic| walk_at "xs") => `(tactic| (show AV _ _ _ _ _ _ _; first | exact a_nil | (refine' a_cons ?_ ?_; (any_goals (walk_at "x")); (any_goals (walk_at "xs")); done)))
local macro_rules | `(tactic| walk_at "u") => `(tactic| (refine' x_call (by assumption) ?_ ?_ (by assumption); (any_goals (walk_at "xs")); (any_goals (walk_at "ck")); done))
local macro_rules | `(tactic| walk_at "x") => `(tactic| first
  | (show EV _ _ (Expr.Name _ _) _ _ _ _; walk_at "v")
  | (show EV _ _ (Expr.Constant _ _ _) _ _ _ _; first | exact ev_int | exact ev_bl | exact ev_non | walk_at "lit")
  | (show EV _ _ (Expr.BinOp _ Operator.Add _ _) _ _ _ _; refine' x_add ?_ ?_ ?_; (any_goals (walk_at "x")); (any_goals (walk_at "add")); done)
  | (show EV _ _ (Expr.BinOp _ Operator.Sub _ _) _ _ _ _; refine' x_sub ?_ ?_; (any_goals (walk_at "x")); done)
  | (show EV _ _ (Expr.BinOp _ Operator.Mult _ _) _ _ _ _; refine' x_mul ?_ ?_ ?_; (any_goals (walk_at "x")); (any_goals (walk_at "mul")); done)
  | (show EV _ _ (Expr.Call (Expr.Attribute _ "get" _) _ _ _) _ _ _ _; refine' x_get ?_ ?_ ?_ ?_ (by assumption); (any_goals (walk_at "x")); (any_goals (walk_at "get")); done)
  | (show EV _ _ (Expr.Call (Expr.Name "len" _) _ _ _) _ _ _ _; refine' x_len ?_ ?_ (by assumption); (any_goals (walk_at "x")); (any_goals (walk_at "len")); done)
  | (show EV _ _ (Expr.Call (Expr.Name _ _) _ _ _) _ _ _ _; walk_at "u")
  | (show EV _ _ (Expr.Subscript _ (Expr.Slice _ _ _ _) _) _ _ _ _; refine' x_sl ?_ ?_ ?_ ?_; (any_goals (walk_at "x")); (any_goals (walk_at "op")); (any_goals (walk_at "sl")); done)
  | (show EV _ _ (Expr.Subscript _ _ _) _ _ _ _; refine' x_ix ?_ ?_ ?_; (any_goals (walk_at "x")); (any_goals (walk_at "ix")); done)
  | (show EV _ _ (Expr.Tuple _ _ _) _ _ _ _; refine' x_tup ?_; (any_goals (walk_at "xs")); done)
  | (show EV _ _ (Expr.List _ _) _ _ _ _; refine' x_lst ?_; (any_goals (walk_at "xs")); done)
  | (show EV _ _ (Expr.Compare _ [CmpOp.Eq] _ _) _ _ _ _; refine' x_eq ?_ ?_ ?_ (by assumption); (any_goals (walk_at "x")); (any_goals (walk_at "eq")); done)
  | (show EV _ _ (Expr.Compare _ [CmpOp.NotEq] _ _) _ _ _ _; refine' x_ne ?_ ?_ ?_ (by assumption); (any_goals (walk_at "x")); (any_goals (walk_at "eq")); done)
  | (show EV _ _ (Expr.Compare _ [CmpOp.Lt] _ _) _ _ _ _; refine' x_lt ?_ ?_ ?_; (any_goals (walk_at "x")); (any_goals (walk_at "lt")); done)
  | (show EV _ _ (Expr.Compare _ [CmpOp.Gt] _ _) _ _ _ _; refine' x_gt ?_ ?_ ?_; (any_goals (walk_at "x")); (any_goals (walk_at "le")); done)
  | (show EV _ _ (Expr.Compare _ [CmpOp.LtE] _ _) _ _ _ _; refine' x_le ?_ ?_ ?_; (any_goals (walk_at "x")); (any_goals (walk_at "le")); done)
  | (show EV _ _ (Expr.UnaryOp _ _ _) _ _ _ _; refine' ev_not ?_; (any_goals (walk_at "x")); done))
local macro_rules | `(tactic| walk_at "t") => `(tactic| first
  | (show TV _ _ (Expr.Compare _ [CmpOp.Eq] _ _) _ _ _ _; refine' t_eq ?_ ?_ ?_ (by assumption); (any_goals (walk_at "x")); (any_goals (walk_at "eq")); done)
  | (show TV _ _ (Expr.Compare _ [CmpOp.NotEq] _ _) _ _ _ _; refine' t_ne ?_ ?_ ?_ (by assumption); (any_goals (walk_at "x")); (any_goals (walk_at "eq")); done)
  | (show TV _ _ (Expr.Compare _ [CmpOp.Lt] _ _) _ _ _ _; refine' t_lt ?_ ?_ ?_; (any_goals (walk_at "x")); (any_goals (walk_at "lt")); done)
  | (show TV _ _ (Expr.Compare _ [CmpOp.Gt] _ _) _ _ _ _; refine' t_gt ?_ ?_ ?_; (any_goals (walk_at "x")); (any_goals (walk_at "le")); done)
  | (show TV _ _ (Expr.Compare _ [CmpOp.LtE] _ _) _ _ _ _; refine' t_le ?_ ?_ ?_; (any_goals (walk_at "x")); (any_goals (walk_at "le")); done)
  | (show TV _ _ (Expr.Compare _ [CmpOp.Is] _ _) _ _ _ _; refine' t_isN ?_; (any_goals (walk_at "x")); done)
  | (show TV _ _ (Expr.Compare _ [CmpOp.IsNot] _ _) _ _ _ _; refine' t_notN ?_; (any_goals (walk_at "x")); done)
  | (show TV _ _ (Expr.UnaryOp UnaryOp.Not _ _) _ _ _ _; refine' tv_not ?_; (any_goals (walk_at "t")); done)
  | (show TV _ _ _ _ _ _ _; refine' tv_e ?_; (any_goals (walk_at "x")); done))
section
variable {P : Program} {w : World} {K : PySem.W.Frag} {mg : Str → Option Value} {base : Heap}
/-! ### telling_sign -/
def tel (Ls Ms : List Lay) : Option Nat := (dsg ((res Ls).map (·.1) ++ (res Ms).map (·.1))).find? fun c => !decide (wS Ls [c] = wS Ms [c])
def telD : Option Nat → PyData
  | none => .none
  | some c => dS [c]
inductive FTelling : List PyData → PyData → Prop
  | mk {Ls Ms : List Lay} (h : SOk Ls) (hl : Ls.length ≤ 5) (g : SOk Ms) (gl : Ms.length ≤ 5) : FTelling [stkD Ls, stkD Ms] (telD (tel Ls Ms))
theorem c_telling_sign (D : Dfn K mg "telling_sign" s_telling_sign) (b : Bn mg) (c1 : Cal P w K mg base "need_stack" 5 ["value"] (PF FNeedS)) (c3 : Cal P w K mg base "results" 3 ["stack"] (PF FResults)) : Cal P w K mg base "telling_sign" 6 ["first", "second"] (PF FTelling) := by
  refine cal_pf D sc_telling_sign (fun _ _ _ _ _ _ us hl => match us, hl with | [_, _], _ => rfl) (fun _ _ h => by cases h; rfl) ?_
  rintro f cdv A outer s H E R ds d hr hF
  have nd := sc_telling_sign.nd
  cases hF with | @mk Ls Ms h hl g gl
  refine sj_expr (x_call c1 (a_cons (ev_v 0) a_nil) (.mk h hl) hr) ?_
  refine sj_expr (x_call c1 (a_cons (ev_v 1) a_nil) (.mk g gl) hr) ?_
  refine sj_par 2 3 (aj_cons (x_call c3 (a_cons (ev_v 0) a_nil) (fres h (by omega)) hr) ?_) rfl nd
  rintro k O ⟨rfl, rfl⟩
  refine aj_cons (x_call c3 (a_cons (ev_v 1) a_nil) (fres g (by omega)) hr) ?_
  rintro k O ⟨rfl, rfl⟩
  refine av_nil.to ⟨_, _, rfl, ?_⟩
  have l1 := res_len h
  have l2 := res_len g
  have ek : ∀ T : Lay, (tKv T).map (fun q => PyData.str q.1) = (T.map (·.1)).map fun c => dS [c] := fun T => by unfold tKv; rw [List.map_map, List.map_map]; rfl
  refine sj_forL 4 (xs := dsg ((res Ls).map (·.1) ++ (res Ms).map (·.1))) (inj := fun c => .dat (dS [c])) (fun pre ss O => ∃ k4, ss = [.dat (stkD Ls), .dat (stkD Ms), .dat (dK (tKv (res Ls))), .dat (dK (tKv (res Ms))), k4] ∧ O = [] ∧ ∀ c ∈ pre, wS Ls [c] = wS Ms [c]) nd
    (il_list (x_sortSetL (l := (res Ls).map (·.1) ++ (res Ms).map (·.1)) (x_add (x_listD (ev_v 2) b.list) (x_listD (ev_v 3) b.list) (.lst (by unfold tKv; rw [List.length_map, List.length_map, List.length_map, List.length_map]; omega))) (by rw [ek, ek, List.map_append]) ((res Ls).map (·.1) ++ (res Ms).map (·.1)) (fun c hc => hc) (by rw [List.length_append, List.length_map, List.length_map]; omega) b)) ⟨_, rfl, rfl, fun _ h => nomatch h⟩ ?_ ?_
  · rintro pre c post e ss1 O1 ⟨k4, rfl, rfl, hp⟩
    refine sj_ifR (t_ne (ev_as (congrArg dS (w1_res Ls c)) (x_get (ev_v 2) (ev_v 4) (ev_v 4) (GetK.t1 _ c) hr)) (ev_as (congrArg dS (w1_res Ms c)) (x_get (ev_v 3) (ev_v 4) (ev_v 4) (GetK.t1 _ c) hr)) (.str _ _) hr) (fun h1 => ?_) (fun h1 => ?_)
    · refine sj_ret (ev_v 4) ?_
      show _ = _
      have e2 : tel Ls Ms = some c := by
        unfold tel
        rw [e, List.find?_append, List.find?_eq_none.mpr (fun x hx => by simp [hp x hx]), List.find?_cons]
        rw [h1]
        rfl
      rw [e2]
      rfl
    · refine sj_nil ⟨_, rfl, rfl, fun x hx => ?_⟩
      rcases List.mem_append.mp hx with hx | hx
      · exact hp x hx
      · rw [List.mem_singleton.mp hx]; simpa using h1
  · rintro ss1 O1 ⟨k4, rfl, rfl, hp⟩
    refine sj_ret (k := .dat .none) ev_non ?_
    show _ = _
    have e2 : tel Ls Ms = none := List.find?_eq_none.mpr fun x hx => by simp [hp x hx]
    rw [e2]
    rfl
/-! ### idle_layers -/
def outL (Ls : List Lay) (i : Nat) : List Lay := Ls.take i ++ Ls.drop (i + 1)
def idl (Ls : List Lay) : List Nat := (List.range Ls.length).filter fun i => decide (tab (outL Ls i) = tab Ls)
inductive FIdle : List PyData → PyData → Prop
  | mk {Ls : List Lay} (h : SOk Ls) (hl : Ls.length ≤ 5) : FIdle [stkD Ls] (.list ((idl Ls).map fun (i : Nat) => .int (i : Nat)))
theorem outL_ok {Ls : List Lay} (h : SOk Ls) (i : Nat) : SOk (outL Ls i) ∧ (outL Ls i).length ≤ Ls.length := by
  refine ⟨fun L hL => ?_, ?_⟩
  · rcases List.mem_append.mp hL with g | g
    · exact h L (List.mem_of_mem_take g)
    · exact h L (List.mem_of_mem_drop g)
  · unfold outL
    rw [List.length_append, List.length_take, List.length_drop]
    omega
theorem x_outL {X : Cx} {R : Addr → Prop} {a c i1 i2 : Expr} {ss : List Kd} {O : Store} {p1 p2 p3 p4 pos : Pos} {Ls : List Lay} {i : Nat} (ha : EV X R a ss O (.dat (stkD Ls)) O) (hc : EV X R c ss O (.dat (stkD Ls)) O) (h1 : EV X R i1 ss O (.dat (.int (i : Nat))) O) (h2 : EV X R i2 ss O (.dat (.int ((i + 1 : Nat)))) O) (hl : Ls.length ≤ 1000) :
    EV X R (.BinOp (.Subscript a (.Slice none (some i1) none p1) p2) .Add (.Subscript c (.Slice (some i2) none none p3) p4) pos) ss O (.dat (stkD (outL Ls i))) O := by
  refine ev_as ?_ (x_add (x_sl ha op_none (op_some h1) (.tTo _ i)) (x_sl hc (op_some h2) op_none (.tFrom _ (i + 1))) (.tup ?_))
  · unfold stkD outL
    rw [List.map_append, List.map_take, List.map_drop]
  · rw [List.length_map, List.length_map, List.length_take, List.length_drop]
    omega
theorem c_idle_layers (D : Dfn K mg "idle_layers" s_idle_layers) (b : Bn mg) (c1 : Cal P w K mg base "need_stack" 5 ["value"] (PF FNeedS)) (c2 : Cal P w K mg base "table_of" 4 ["stack"] (PF FTableOf)) : Cal P w K mg base "idle_layers" 6 ["stack"] (PF FIdle) := by
  refine cal_pf D sc_idle_layers (fun _ _ _ _ _ _ us hl => match us, hl with | [_], _ => rfl) (fun _ _ h => by cases h; rfl) ?_
  rintro f cdv A outer s H E R ds d hr hF
  have nd := sc_idle_layers.nd
  cases hF with | @mk Ls h hl
  refine sj_expr (x_call c1 (a_cons (ev_v 0) a_nil) (.mk h hl) hr) ?_
  refine sj_set 1 (x_call c2 (a_cons (ev_v 0) a_nil) (.mk h (by omega)) hr) ?_ nd
  refine sj_ret (x_lc (lj_filtL 2 (xs := List.range Ls.length) (inj := fun (i : Nat) => .dat (.int (i : Nat))) (f := fun (i : Nat) => .int (i : Nat)) (t := fun i => decide (tab (outL Ls i) = tab Ls)) (il_range (x_len (ev_v 0) (.tupM _) b) rfl (by omega) b.range) (by rw [List.length_range]; omega) (by walk_at "blk") nd (fun i hi s H C cl fp => ?_) (fun i hi _ s H C cl fp => ev_v 2)) nd) rfl
  obtain ⟨g1, g2⟩ := outL_ok h i
  exact t_eq (x_call c2 (a_cons (x_outL (ev_v 0) (ev_v 0) (ev_v 2) (x_add (ev_v 2) ev_int (.nat1 i)) (by omega)) a_nil) (.mk g1 (by omega)) hr) (ev_v 1) (.gen (pl_tab g1 (by omega)) (pl_tab h (by omega)) (eqv_lay _ _)) hr
end
end Fc
end
section
namespace Fc
open PySem PySem.Spec PyProof.Rows L2 Dl
open Evl (Ex)
local macro_rules | `(tactic| walk_at "v") => `(tactic| first | exact ev_v 0 | exact ev_v 1 | exact ev_v 2 | exact ev_v 3 | exact ev_v 4 | exact ev_v 5 | exact ev_v 6 | exact ev_v 7 | exact ev_v 8 | exact ev_v 9 | exact ev_v 10 | exact ev_v 11 | exact ev_v 12 | exact ev_v 13 | exact ev_v 14 | exact ev_v 15 | exact ev_v 16)
local macro_rules | `(tactic| walk_at "side") => `(tactic| first | assumption | rfl | decide | omega | (simp only [List.length_map, List.length_append, List.length_cons, List.length_nil, List.length_singleton] at *; omega))
local macro_rules | `(tactic| walk_at "ck") => `(tactic| (constructor <;> walk_at "side"))
local macro_rules | `(tactic| walk_at "add") => `(tactic| first | exact AddK.nat _ _ | exact AddK.nat1 _ | exact AddK.one _ | exact AddK.int _ _ | (refine AddK.str ?_; walk_at "side") | (refine AddK.lstM ?_; walk_at "side") | (refine AddK.tupM ?_; walk_at "side") | (refine AddK.lst ?_; walk_at "side") | (refine AddK.tup ?_; walk_at "side"))
local macro_rules | `(tactic| walk_at "mul") => `(tactic| first | (refine MulK.nat _ _ ?_; walk_at "side") | (refine MulK.int _ _ ?_; walk_at "side") | (refine MulK.str ?_ ?_ <;> walk_at "side") | (refine MulK.lst ?_ ?_ <;> walk_at "side"))
local macro_rules | `(tactic| walk_at "eq") => `(tactic| first | exact EqK.nat _ _ | exact EqK.int _ _ | exact EqK.str _ _ | exact EqK.bool _ _ | exact EqK.nonS _ | exact EqK.strN _ | exact EqK.intS _ _ | exact EqK.strI _ _ | exact EqK.nonI _ | exact EqK.intN _ | exact EqK.nonN | (refine EqK.gen ?_ ?_ ?_ <;> walk_at "side"))
local macro_rules | `(tactic| walk_at "lt") => `(tactic| first | exact LtK.nat _ _ | exact LtK.int _ _ | exact LtK.str _ _)
local macro_rules | `(tactic| walk_at "le") => `(tactic| first | exact LeK.nat _ _ | exact LeK.int _ _)
local macro_rules | `(tactic| walk_at "len") => `(tactic| first | (refine LenK.str ?_; walk_at "side") | exact LenK.lstM _ | exact LenK.tupM _ | exact LenK.lst _ | exact LenK.tup _)
local macro_rules | `(tactic| walk_at "ix") => `(tactic| first | (refine IxK.lst ?_; first | rfl | assumption) | (refine IxK.tup ?_; first | rfl | assumption) | (refine IxK.lN ?_; first | rfl | assumption) | (refine IxK.tN ?_; first | rfl | assumption) | (refine IxK.sN ?_ ?_ <;> walk_at "side"))
local macro_rules | `(tactic| walk_at "get") => `(tactic| first | exact GetK.mk _ _ _)
local macro_rules | `(tactic| walk_at "sl") => `(tactic| first | exact SlK.tFrom _ _ | exact SlK.tTo _ _ | exact SlK.lFrom _ _ | exact SlK.lTo _ _ | (refine SlK.sFrom _ _ ?_; walk_at "side") | (refine SlK.sTo _ _ ?_; walk_at "side") | (refine SlK.sMid _ _ _ ?_; walk_at "side") | exact SlK.tup _ _ _ | exact SlK.lst _ _ _ | (refine SlK.str ?_; walk_at "side"))
local macro_rules | `(tactic| walk_at "lit") => `(tactic| first | exact ev_strE (y := sL []) (by decide +kernel))
local macro_rules | `(tactic| walk_at "op") => `(tactic| (show OpI _ _ _ _ _ _ _; first | exact op_none | (refine' op_some ?_; (any_goals (walk_at "x")); done)))
local macro_rules | `(tactic| walk_at "blk") => `(tactic| exact blkOk_by (by kernel_rfl))
local macro_rules | `(tactic| walk_at "il") => `(tactic| first
  | (refine' il_tup ?_; (any_goals (walk_at "x")); done)
  | (refine' il_list ?_; (any_goals (walk_at "x")); done)
  | (refine' il_str ?_; (any_goals (walk_at "x")); done))
local macro_rules | `(tactic| walk_at "xs") => `(tactic| (show AV _ _ _ _ _ _ _; first | exact a_nil | (refine' a_cons ?_ ?_; (any_goals (walk_at "x")); (any_goals (walk_at "xs")); done)))
local macro_rules | `(tactic| walk_at "u") => `(tactic| (refine' x_call (by assumption) ?_ ?_ (by assumption); (any_goals (walk_at "xs")); (any_goals (walk_at "ck")); done))
local macro_rules | `(tactic| walk_at "x") => `(tactic| first
  | (show EV _ _ (Expr.Name _ _) _ _ _ _; walk_at "v")
  | (show EV _ _ (Expr.Constant _ _ _) _ _ _ _; first | exact ev_int | exact ev_bl | exact ev_non | walk_at "lit")
  | (show EV _ _ (Expr.BinOp _ Operator.Add _ _) _ _ _ _; refine' x_add ?_ ?_ ?_; (any_goals (walk_at "x")); (any_goals (walk_at "add")); done)
  | (show EV _ _ (Expr.BinOp _ Operator.Sub _ _) _ _ _ _; refine' x_sub ?_ ?_; (any_goals (walk_at "x")); done)
  | (show EV _ _ (Expr.BinOp _ Operator.Mult _ _) _ _ _ _; refine' x_mul ?_ ?_ ?_; (any_goals (walk_at "x")); (any_goals (walk_at "mul")); done)
  | (show EV _ _ (Expr.Call (Expr.Attribute _ "get" _) _ _ _) _ _ _ _; refine' x_get ?_ ?_ ?_ ?_ (by assumption); (any_goals (walk_at "x")); (any_goals (walk_at "get")); done)
  | (show EV _ _ (Expr.Call (Expr.Name "len" _) _ _ _) _ _ _ _; refine' x_len ?_ ?_ (by assumption); (any_goals (walk_at "x")); (any_goals (walk_at "len")); done)
  | (show EV _ _ (Expr.Call (Expr.Name _ _) _ _ _) _ _ _ _; walk_at "u")
  | (show EV _ _ (Expr.Subscript _ (Expr.Slice _ _ _ _) _) _ _ _ _; refine' x_sl ?_ ?_ ?_ ?_; (any_goals (walk_at "x")); (any_goals (walk_at "op")); (any_goals (walk_at "sl")); done)
  | (show EV _ _ (Expr.Subscript _ _ _) _ _ _ _; refine' x_ix ?_ ?_ ?_; (any_goals (walk_at "x")); (any_goals (walk_at "ix")); done)
  | (show EV _ _ (Expr.Tuple _ _ _) _ _ _ _; refine' x_tup ?_; (any_goals (walk_at "xs")); done)
  | (show EV _ _ (Expr.List _ _) _ _ _ _; refine' x_lst ?_; (any_goals (walk_at "xs")); done)
  | (show EV _ _ (Expr.Compare _ [CmpOp.Eq] _ _) _ _ _ _; refine' x_eq ?_ ?_ ?_ (by assumption); (any_goals (walk_at "x")); (any_goals (walk_at "eq")); done)
  | (show EV _ _ (Expr.Compare _ [CmpOp.NotEq] _ _) _ _ _ _; refine' x_ne ?_ ?_ ?_ (by assumption); (any_goals (walk_at "x")); (any_goals (walk_at "eq")); done)
  | (show EV _ _ (Expr.Compare _ [CmpOp.Lt] _ _) _ _ _ _; refine' x_lt ?_ ?_ ?_; (any_goals (walk_at "x")); (any_goals (walk_at "lt")); done)
  | (show EV _ _ (Expr.Compare _ [CmpOp.Gt] _ _) _ _ _ _; refine' x_gt ?_ ?_ ?_; (any_goals (walk_at "x")); (any_goals (walk_at "le")); done)
  | (show EV _ _ (Expr.Compare _ [CmpOp.LtE] _ _) _ _ _ _; refine' x_le ?_ ?_ ?_; (any_goals (walk_at "x")); (any_goals (walk_at "le")); done)
  | (show EV _ _ (Expr.UnaryOp _ _ _) _ _ _ _; refine' ev_not ?_; (any_goals (walk_at "x")); done))
local macro_rules | `(tactic| walk_at "t") => `(tactic| first
  | (show TV _ _ (Expr.Compare _ [CmpOp.Eq] _ _) _ _ _ _; refine' t_eq ?_ ?_ ?_ (by assumption); (any_goals (walk_at "x")); (any_goals (walk_at "eq")); done)
  | (show TV _ _ (Expr.Compare _ [CmpOp.NotEq] _ _) _ _ _ _; refine' t_ne ?_ ?_ ?_ (by assumption); (any_goals (walk_at "x")); (any_goals (walk_at "eq")); done)
  | (show TV _ _ (Expr.Compare _ [CmpOp.Lt] _ _) _ _ _ _; refine' t_lt ?_ ?_ ?_; (any_goals (walk_at "x")); (any_goals (walk_at "lt")); done)
  | (show TV _ _ (Expr.Compare _ [CmpOp.Gt] _ _) _ _ _ _; refine' t_gt ?_ ?_ ?_; (any_goals (walk_at "x")); (any_goals (walk_at "le")); done)
  | (show TV _ _ (Expr.Compare _ [CmpOp.LtE] _ _) _ _ _ _; refine' t_le ?_ ?_ ?_; (any_goals (walk_at "x")); (any_goals (walk_at "le")); done)
  | (show TV _ _ (Expr.Compare _ [CmpOp.Is] _ _) _ _ _ _; refine' t_isN ?_; (any_goals (walk_at "x")); done)
  | (show TV _ _ (Expr.Compare _ [CmpOp.IsNot] _ _) _ _ _ _; refine' t_notN ?_; (any_goals (walk_at "x")); done)
  | (show TV _ _ (Expr.UnaryOp UnaryOp.Not _ _) _ _ _ _; refine' tv_not ?_; (any_goals (walk_at "t")); done)
  | (show TV _ _ _ _ _ _ _; refine' tv_e ?_; (any_goals (walk_at "x")); done))
theorem tv_as {X : Cx} {R : Addr → Prop} {a : Expr} {ss : List Kd} {O O1 : Store} {b1 b2 : Bool} (e : b1 = b2) (h : TV X R a ss O b1 O1) : TV X R a ss O b2 O1 := e ▸ h
/-! ### _law_write, _law_through -/
theorem some_head (L : Lay) (c : Nat) : ((L.filter fun q => decide (q.1 = c)).map fun q => q.2).head?.getD [c] = w1 L c := by
  unfold w1 lk
  induction L with
  | nil => rfl
  | cons q L ih =>
    rw [List.filter_cons, List.find?_cons]
    by_cases h : q.1 = c
    · simp [h]
    · simp only [decide_eq_false h]
      exact ih
section
variable {P : Program} {w : World} {K : PySem.W.Frag} {mg : Str → Option Value} {base : Heap}
inductive FLWrite : List PyData → PyData → Prop
  | mk {L : Lay} {t : Tx} (h : LOk L) (hw : (wL L t).length ≤ 100000) : FLWrite [layD L, dS t] (dS (wL L t))
inductive FLThrough : List PyData → PyData → Prop
  | mk {Ls : List Lay} {t : Tx} (h : SOk Ls) (hw : (wS Ls t).length ≤ 100000) : FLThrough [stkD Ls, dS t] (dS (wS Ls t))
end
end Fc
end
section
namespace Fc
open PySem PySem.Spec PyProof.Rows L2 Dl
open Evl (Ex)
local macro_rules | `(tactic| walk_at "v") => `(tactic| first | exact ev_v 0 | exact ev_v 1 | exact ev_v 2 | exact ev_v 3 | exact ev_v 4 | exact ev_v 5 | exact ev_v 6 | exact ev_v 7 | exact ev_v 8 | exact ev_v 9 | exact ev_v 10 | exact ev_v 11 | exact ev_v 12 | exact ev_v 13 | exact ev_v 14 | exact ev_v 15 | exact ev_v 16)
local macro_rules | `(tactic| walk_at "side") => `(tactic| first | assumption | rfl | decide | omega | (simp only [List.length_map, List.length_append, List.length_cons, List.length_nil, List.length_singleton] at *; omega))
local macro_rules | `(tactic| walk_at "ck") => `(tactic| (constructor <;> walk_at "side"))
local macro_rules | `(tactic| walk_at "add") => `(tactic| first | exact AddK.nat _ _ | exact AddK.nat1 _ | exact AddK.one _ | exact AddK.int _ _ | (refine AddK.str ?_; walk_at "side") | (refine AddK.lstM ?_; walk_at "side") | (refine AddK.tupM ?_; walk_at "side") | (refine AddK.lst ?_; walk_at "side") | (refine AddK.tup ?_; walk_at "side"))
local macro_rules | `(tactic| walk_at "mul") => `(tactic| first | (refine MulK.nat _ _ ?_; walk_at "side") | (refine MulK.int _ _ ?_; walk_at "side") | (refine MulK.str ?_ ?_ <;> walk_at "side") | (refine MulK.lst ?_ ?_ <;> walk_at "side"))
local macro_rules | `(tactic| walk_at "eq") => `(tactic| first | exact EqK.nat _ _ | exact EqK.int _ _ | exact EqK.str _ _ | exact EqK.bool _ _ | exact EqK.nonS _ | exact EqK.strN _ | exact EqK.intS _ _ | exact EqK.strI _ _ | exact EqK.nonI _ | exact EqK.intN _ | exact EqK.nonN | (refine EqK.gen ?_ ?_ ?_ <;> walk_at "side"))
local macro_rules | `(tactic| walk_at "lt") => `(tactic| first | exact LtK.nat _ _ | exact LtK.int _ _ | exact LtK.str _ _)
local macro_rules | `(tactic| walk_at "le") => `(tactic| first | exact LeK.nat _ _ | exact LeK.int _ _)
local macro_rules | `(tactic| walk_at "len") => `(tactic| first | (refine LenK.str ?_; walk_at "side") | exact LenK.lstM _ | exact LenK.tupM _ | exact LenK.lst _ | exact LenK.tup _)
local macro_rules | `(tactic| walk_at "ix") => `(tactic| first | (refine IxK.lst ?_; first | rfl | assumption) | (refine IxK.tup ?_; first | rfl | assumption) | (refine IxK.lN ?_; first | rfl | assumption) | (refine IxK.tN ?_; first | rfl | assumption) | (refine IxK.sN ?_ ?_ <;> walk_at "side"))
local macro_rules | `(tactic| walk_at "get") => `(tactic| first | exact GetK.mk _ _ _)
local macro_rules | `(tactic| walk_at "sl") => `(tactic| first | exact SlK.tFrom _ _ | exact SlK.tTo _ _ | exact SlK.lFrom _ _ | exact SlK.lTo _ _ | (refine SlK.sFrom _ _ ?_; walk_at "side") | (refine SlK.sTo _ _ ?_; walk_at "side") | (refine SlK.sMid _ _ _ ?_; walk_at "side") | exact SlK.tup _ _ _ | exact SlK.lst _ _ _ | (refine SlK.str ?_; walk_at "side"))
local macro_rules | `(tactic| walk_at "lit") => `(tactic| first | exact ev_strE (y := sL []) (by decide +kernel))
local macro_rules | `(tactic| walk_at "op") => `(tactic| (show OpI _ _ _ _ _ _ _; first | exact op_none | (refine' op_some ?_; (any_goals (walk_at "x")); done)))
local macro_rules | `(tactic| walk_at "blk") => `(tactic| exact blkOk_by (by kernel_rfl))
local macro_rules | `(tactic| walk_at "il") => `(tactic| first
  | (refine' il_tup ?_; (any_goals (walk_at "x")); done)
  | (refine' il_list ?_; (any_goals (walk_at "x")); done)
  | (refine' il_str ?_; (any_goals (walk_at "x")); done))
local macro_rules | `(tactic| walk_at "xs") => `(tactic| (show AV _ _ _ _ _ _ _; first | exact a_nil | (refine' a_cons ?_ ?_; (any_goals (walk_at "x")); (any_goals (walk_at "xs")); done)))
local macro_rules | `(tactic| walk_at "u") => `(tactic| (refine' x_call (by assumption) ?_ ?_ (by assumption); (any_goals (walk_at "xs")); (any_goals (walk_at "ck")); done))
local macro_rules | `(tactic| walk_at "x") => `(tactic| first
  | (show EV _ _ (Expr.Name _ _) _ _ _ _; walk_at "v")
  | (show EV _ _ (Expr.Constant _ _ _) _ _ _ _; first | exact ev_int | exact ev_bl | exact ev_non | walk_at "lit")
  | (show EV _ _ (Expr.BinOp _ Operator.Add _ _) _ _ _ _; refine' x_add ?_ ?_ ?_; (any_goals (walk_at "x")); (any_goals (walk_at "add")); done)
  | (show EV _ _ (Expr.BinOp _ Operator.Sub _ _) _ _ _ _; refine' x_sub ?_ ?_; (any_goals (walk_at "x")); done)
  | (show EV _ _ (Expr.BinOp _ Operator.Mult _ _) _ _ _ _; refine' x_mul ?_ ?_ ?_; (any_goals (walk_at "x")); (any_goals (walk_at "mul")); done)
  | (show EV _ _ (Expr.Call (Expr.Attribute _ "get" _) _ _ _) _ _ _ _; refine' x_get ?_ ?_ ?_ ?_ (by assumption); (any_goals (walk_at "x")); (any_goals (walk_at "get")); done)
  | (show EV _ _ (Expr.Call (Expr.Name "len" _) _ _ _) _ _ _ _; refine' x_len ?_ ?_ (by assumption); (any_goals (walk_at "x")); (any_goals (walk_at "len")); done)
  | (show EV _ _ (Expr.Call (Expr.Name _ _) _ _ _) _ _ _ _; walk_at "u")
  | (show EV _ _ (Expr.Subscript _ (Expr.Slice _ _ _ _) _) _ _ _ _; refine' x_sl ?_ ?_ ?_ ?_; (any_goals (walk_at "x")); (any_goals (walk_at "op")); (any_goals (walk_at "sl")); done)
  | (show EV _ _ (Expr.Subscript _ _ _) _ _ _ _; refine' x_ix ?_ ?_ ?_; (any_goals (walk_at "x")); (any_goals (walk_at "ix")); done)
  | (show EV _ _ (Expr.Tuple _ _ _) _ _ _ _; refine' x_tup ?_; (any_goals (walk_at "xs")); done)
  | (show EV _ _ (Expr.List _ _) _ _ _ _; refine' x_lst ?_; (any_goals (walk_at "xs")); done)
  | (show EV _ _ (Expr.Compare _ [CmpOp.Eq] _ _) _ _ _ _; refine' x_eq ?_ ?_ ?_ (by assumption); (any_goals (walk_at "x")); (any_goals (walk_at "eq")); done)
  | (show EV _ _ (Expr.Compare _ [CmpOp.NotEq] _ _) _ _ _ _; refine' x_ne ?_ ?_ ?_ (by assumption); (any_goals (walk_at "x")); (any_goals (walk_at "eq")); done)
  | (show EV _ _ (Expr.Compare _ [CmpOp.Lt] _ _) _ _ _ _; refine' x_lt ?_ ?_ ?_; (any_goals (walk_at "x")); (any_goals (walk_at "lt")); done)
  | (show EV _ _ (Expr.Compare _ [CmpOp.Gt] _ _) _ _ _ _; refine' x_gt ?_ ?_ ?_; (any_goals (walk_at "x")); (any_goals (walk_at "le")); done)
  | (show EV _ _ (Expr.Compare _ [CmpOp.LtE] _ _) _ _ _ _; refine' x_le ?_ ?_ ?_; (any_goals (walk_at "x")); (any_goals (walk_at "le")); done)
  | (show EV _ _ (Expr.UnaryOp _ _ _) _ _ _ _; refine' ev_not ?_; (any_goals (walk_at "x")); done))
local macro_rules | `(tactic| walk_at "t") => `(tactic| first
  | (show TV _ _ (Expr.Compare _ [CmpOp.Eq] _ _) _ _ _ _; refine' t_eq ?_ ?_ ?_ (by assumption); (any_goals (walk_at "x")); (any_goals (walk_at "eq")); done)
  | (show TV _ _ (Expr.Compare _ [CmpOp.NotEq] _ _) _ _ _ _; refine' t_ne ?_ ?_ ?_ (by assumption); (any_goals (walk_at "x")); (any_goals (walk_at "eq")); done)
  | (show TV _ _ (Expr.Compare _ [CmpOp.Lt] _ _) _ _ _ _; refine' t_lt ?_ ?_ ?_; (any_goals (walk_at "x")); (any_goals (walk_at "lt")); done)
  | (show TV _ _ (Expr.Compare _ [CmpOp.Gt] _ _) _ _ _ _; refine' t_gt ?_ ?_ ?_; (any_goals (walk_at "x")); (any_goals (walk_at "le")); done)
  | (show TV _ _ (Expr.Compare _ [CmpOp.LtE] _ _) _ _ _ _; refine' t_le ?_ ?_ ?_; (any_goals (walk_at "x")); (any_goals (walk_at "le")); done)
  | (show TV _ _ (Expr.Compare _ [CmpOp.Is] _ _) _ _ _ _; refine' t_isN ?_; (any_goals (walk_at "x")); done)
  | (show TV _ _ (Expr.Compare _ [CmpOp.IsNot] _ _) _ _ _ _; refine' t_notN ?_; (any_goals (walk_at "x")); done)
  | (show TV _ _ (Expr.UnaryOp UnaryOp.Not _ _) _ _ _ _; refine' tv_not ?_; (any_goals (walk_at "t")); done)
  | (show TV _ _ _ _ _ _ _; refine' tv_e ?_; (any_goals (walk_at "x")); done))
theorem short_res' {Ls : List Lay} (h : SOk Ls) (hl : Ls.length ≤ 6) (c : Nat) : (wS Ls [c]).length ≤ 100000 := by
  have h1 := (wS_len h [c]).2
  have h2 := pow6 hl
  simp at h1
  omega
/-! ### _law_known -/
def kn1 (Ls : List Lay) (acc : List Nat) (c : Nat) : List Nat := if wS Ls [c] = [c] ∨ c ∈ acc then acc else acc ++ [c]
def kno (Ls : List Lay) : Lay := ((sgs Ls).foldl (kn1 Ls) []).map fun c => (c, wS Ls [c])
theorem kn_nd (Ls : List Lay) : ∀ (l acc : List Nat), acc.Nodup → (l.foldl (kn1 Ls) acc).Nodup
  | [], _, h => h
  | c :: l, acc, h => kn_nd Ls l _ (by
    unfold kn1
    split
    · exact h
    · rename_i hn
      rw [not_or] at hn
      exact List.nodup_append.mpr ⟨h, by simp, fun x hx y hy e => by rw [List.mem_singleton.mp hy] at e; exact hn.2 (e ▸ hx)⟩)
theorem kn_mem (Ls : List Lay) : ∀ (l acc : List Nat) (x : Nat), x ∈ l.foldl (kn1 Ls) acc ↔ x ∈ acc ∨ (x ∈ l ∧ wS Ls [x] ≠ [x])
  | [], acc, x => by simp
  | c :: l, acc, x => by
    rw [List.foldl_cons, kn_mem Ls l]
    unfold kn1
    by_cases h1 : wS Ls [c] = [c]
    · rw [if_pos (.inl h1)]
      constructor
      · rintro (h | ⟨h, g⟩)
        · exact .inl h
        · exact .inr ⟨List.mem_cons_of_mem _ h, g⟩
      · rintro (h | ⟨h, g⟩)
        · exact .inl h
        · rcases List.mem_cons.mp h with rfl | h
          · exact absurd h1 g
          · exact .inr ⟨h, g⟩
    · by_cases h2 : c ∈ acc
      · rw [if_pos (.inr h2)]
        constructor
        · rintro (h | ⟨h, g⟩)
          · exact .inl h
          · exact .inr ⟨List.mem_cons_of_mem _ h, g⟩
        · rintro (h | ⟨h, g⟩)
          · exact .inl h
          · rcases List.mem_cons.mp h with rfl | h
            · exact .inl h2
            · exact .inr ⟨h, g⟩
      · rw [if_neg (by rw [not_or]; exact ⟨h1, h2⟩), List.mem_append, List.mem_singleton]
        constructor
        · rintro ((h | rfl) | ⟨h, g⟩)
          · exact .inl h
          · exact .inr ⟨List.mem_cons_self, h1⟩
          · exact .inr ⟨List.mem_cons_of_mem _ h, g⟩
        · rintro (h | ⟨h, g⟩)
          · exact .inl (.inl h)
          · rcases List.mem_cons.mp h with rfl | h
            · exact .inl (.inr rfl)
            · exact .inr ⟨h, g⟩
theorem kn_len (Ls : List Lay) : ∀ (l acc : List Nat), (l.foldl (kn1 Ls) acc).length ≤ acc.length + l.length
  | [], acc => by simp
  | c :: l, acc => by
    have h1 := kn_len Ls l (kn1 Ls acc c)
    have h2 : (kn1 Ls acc c).length ≤ acc.length + 1 := by unfold kn1; split <;> simp
    rw [List.foldl_cons, List.length_cons]
    omega
theorem w1_kno (Ls : List Lay) (c : Nat) : w1 (kno Ls) c = wS Ls [c] := by
  by_cases h : c ∈ (sgs Ls).foldl (kn1 Ls) []
  · unfold w1 kno
    rw [lk_map h]
    rfl
  · have e := w1_none (L := kno Ls) (c := c) (by
      unfold kno
      rw [List.map_map]
      have : ((fun q : Nat × Tx => q.1) ∘ fun c => (c, wS Ls [c])) = id := rfl
      rw [this, List.map_id]
      exact h)
    rw [e]
    rw [kn_mem] at h
    by_cases hs : c ∈ sgs Ls
    · by_cases hh : wS Ls [c] = [c]
      · exact hh.symm
      · exact absurd (.inr ⟨hs, hh⟩) h
    · exact (wS_no hs).symm
theorem put_kn (Ls : List Lay) (acc : List Nat) (c : Nat) (h : wS Ls [c] ≠ [c]) : putT (tKv (acc.map fun c => (c, wS Ls [c]))) (sL [c]) (dS (wS Ls [c])) = tKv ((kn1 Ls acc c).map fun c => (c, wS Ls [c])) := by
  have key : ∀ q ∈ tKv (acc.map fun c => (c, wS Ls [c])), q.1 = sL [c] → q = (sL [c], dS (wS Ls [c])) := fun q hq e => by
    unfold tKv at hq
    rw [List.map_map] at hq
    obtain ⟨a, ha, rfl⟩ := List.mem_map.mp hq
    have : a = c := sL1_inj.mp e
    rw [this]
    rfl
  unfold kn1
  by_cases hc : c ∈ acc
  · rw [if_pos (.inr hc)]
    unfold putT
    rw [if_pos (List.any_eq_true.mpr ⟨(sL [c], dS (wS Ls [c])), by unfold tKv; rw [List.map_map]; exact List.mem_map.mpr ⟨c, hc, rfl⟩, by simp⟩)]
    refine (List.map_congr_left fun q hq => ?_).trans (List.map_id _)
    by_cases e : q.1 = sL [c]
    · have := key q hq e
      rw [this]; simp
    · simp [e]
  · rw [if_neg (by rw [not_or]; exact ⟨h, hc⟩), putT_new fun q hq e => by
      unfold tKv at hq
      rw [List.map_map] at hq
      obtain ⟨a, ha, rfl⟩ := List.mem_map.mp hq
      exact hc (sL1_inj.mp e ▸ ha)]
    unfold tKv
    rw [List.map_append, List.map_append]
    rfl
section
variable {P : Program} {w : World} {K : PySem.W.Frag} {mg : Str → Option Value} {base : Heap}
inductive FLKnown : List PyData → PyData → Prop
  | mk {Ls : List Lay} (h : SOk Ls) (hl : Ls.length ≤ 6) : FLKnown [stkD Ls] (dK (tKv (kno Ls)))
end
end Fc
end
section
namespace Fc
open PySem PySem.Spec PyProof.Rows L2 Dl
open Evl (Ex)
/-! ### stacks over a pool -/
theorem wS_in {po : Tx} {most : Nat} {Ls : List Lay} (h : ∀ L ∈ Ls, IsLay po most L) : ∀ {t : Tx} {x : Nat}, x ∈ wS Ls t → x ∈ po ∨ x ∈ t := by
  induction Ls with
  | nil => exact fun hx => .inr hx
  | cons L Ls ih =>
    intro t x hx
    rcases ih (fun M hM => h M (List.mem_cons_of_mem _ hM)) hx with g | g
    · exact .inl g
    · obtain ⟨c, hc, g⟩ := List.mem_flatMap.mp g
      rcases w1_cases (L := L) c with e | e
      · rw [e, List.mem_singleton] at g
        exact .inr (g ▸ hc)
      · exact .inl (((h L List.mem_cons_self).ok _ e).2.2.2 x g)
abbrev poU (po : Tx) : List Nat := po ++ [122, 126]
theorem full_res {po : Tx} {most : Nat} {Ls : List Lay} (hpo : po ∈ pools) (hS : SOk Ls) (h : ∀ L ∈ Ls, IsLay po most L) : Full (res Ls) (poU po) := by
  obtain ⟨po1, po2, po3⟩ := pool_ok po hpo
  refine ⟨⟨by rw [List.length_append]; simp; omega, fun c hc => (List.mem_append.mp hc).elim (pools_sgn po hpo c) (zt_sgn c), fun c hc x hx => ?_⟩, fun c _ => ?_⟩
  · rw [w1_res] at hx
    rcases wS_in h hx with g | g
    · exact List.mem_append_left _ g
    · rw [List.mem_singleton.mp g]; exact hc
  · rw [w1_res]
    exact (wS_len hS [c]).1
theorem wL_le {A B : Lay} : ∀ {t : Tx}, (∀ c ∈ t, (w1 A c).length ≤ (w1 B c).length) → (wL A t).length ≤ (wL B t).length
  | [], _ => Nat.le_refl _
  | c :: t, h => by
    rw [wL_cons, wL_cons, List.length_append, List.length_append]
    have h1 := h c List.mem_cons_self
    have h2 := wL_le (A := A) (B := B) (t := t) fun x hx => h x (List.mem_cons_of_mem _ hx)
    omega
theorem rn_app (Ls : List Lay) : ∀ (n : Nat) (s t : Tx), rn Ls n (s ++ t) = rn Ls n s ++ rn Ls n t
  | 0, _, _ => rfl
  | n + 1, s, t => by show wS Ls (rn Ls n (s ++ t)) = _; rw [rn_app Ls n, wS_app]; rfl
/-- a stack that writes all signs as they are does not grow -/
theorem grD_id {T : Lay} {U : List Nat} (h : FewT T U) (hid : ∀ c, w1 T c = [c]) {t : Tx} (ht : ∀ c ∈ t, c ∈ U) : grD T t U = .int (0 : Nat) := by
  have r1 : ∀ c ∈ U, (rtn T U c).length ≤ 1 := fun c hc => by
    unfold rtn
    refine Nat.le_trans (List.length_filter_le _ _) ?_
    rw [hid]; simp
  have c1 : ∀ c ∈ U, cyc T U c ≤ 1 := fun c hc => by
    rw [cyc_eq h hc]
    have e : beh T U c = [] := by
      unfold beh
      rw [List.flatMap_eq_nil_iff]
      intro o ho
      rw [hid, List.filter_eq_nil_iff]
      intro x hx
      rw [List.mem_singleton.mp hx]
      simp [ho]
    rw [e]
    show 0 + _ ≤ 1
    split <;> omega
  have inU : ∀ c ∈ rch T t U, c ∈ U := fun c hc => (h.s ht).rch ((rch_mem (h.s ht)).mp hc)
  have m1 : rtM T t U ≤ 1 := mx_le (by decide) fun a ha => by
    obtain ⟨c, hc, rfl⟩ := List.mem_map.mp ha
    exact r1 c (inU c hc)
  have m2 : cyM T t U ≤ 1 := mx_le (by decide) fun a ha => by
    obtain ⟨c, hc, rfl⟩ := List.mem_map.mp ha
    exact c1 c (inU c hc)
  unfold grD
  rw [if_neg (by omega)]
  have : cyM T t U - 1 = 0 := by omega
  rw [this]
theorem mx_zero {l : List Nat} : mx 0 l = 0 ↔ ∀ a ∈ l, a = 0 := by
  constructor
  · intro h a ha
    have := (mx_ge l 0).2 a ha
    omega
  · intro h
    rcases mx_mem l 0 with e | e
    · exact e
    · exact h _ e
theorem pl_tf (c : Bool) : pl (.str (if c then "True" else "False")) = true := by cases c <;> decide +kernel
theorem okD_setD (T : Lay) (t : Tx) (U : List Nat) (k n : Nat) : okD k n (setD T t U) := by
  unfold setD
  split <;> (unfold okD; trivial)
theorem any_none {T : Lay} {U : List Nat} (l : List Nat) : ((l.map fun c => setD T [c] U).any fun z => PyData.eqv z .none) = l.any fun c => decide (rk T [c] U ≠ 0) := by
  rw [List.any_map]
  congr 1
  funext c
  show PyData.eqv (setD T [c] U) .none = _
  rw [setD_rk]
  by_cases h : rk T [c] U = 0
  · rw [if_pos h]; simp [PyData.eqv, h]
  · rw [if_neg h]; simp [PyData.eqv, h]
end Fc
end
section
namespace Fc
open PySem PySem.Spec PyProof.Rows L2 Dl
open Evl (Ex)
/-! ### never longer -/
theorem res_fst {Ls : List Lay} {c : Nat} : c ∈ (res Ls).map (·.1) ↔ c ∈ sgs Ls := by rw [dsg_res, dsg_mem]
/-- never longer, by the signs of the pool -/
theorem nl_pool {po : Tx} {A B : List Lay} (hA : ∀ c ∈ sgs A, c ∈ po) (hB : ∀ c ∈ sgs B, c ∈ po) : nlB (res A) (res B) = ((dsg po).filter fun c => !decide ((wS A [c]).length ≤ (wS B [c]).length)).isEmpty := by
  unfold nlB
  rw [nl_all (U := po) _ _ fun c hc => (List.mem_append.mp hc).elim (fun h => hA c (res_fst.mp h)) fun h => hB c (res_fst.mp h)]
  rw [Bool.eq_iff_iff, List.all_eq_true, List.isEmpty_iff, List.filter_eq_nil_iff]
  constructor
  · intro h c hc
    have := h c (dsg_mem.mp hc)
    rw [w1_res, w1_res] at this
    simpa using this
  · intro h c hc
    have := h c (dsg_mem.mpr hc)
    rw [w1_res, w1_res]
    simpa using this
theorem nl_text {po : Tx} {A B : List Lay} (hA : ∀ c ∈ sgs A, c ∈ po) (hB : ∀ c ∈ sgs B, c ∈ po) (h : ((dsg po).filter fun c => !decide ((wS A [c]).length ≤ (wS B [c]).length)).isEmpty = true) (t : Tx) : (wL (kno A) t).length ≤ (wL (kno B) t).length := by
  rw [List.isEmpty_iff, List.filter_eq_nil_iff] at h
  refine wL_le fun c _ => ?_
  rw [w1_kno, w1_kno]
  by_cases hc : c ∈ po
  · simpa using h c (dsg_mem.mpr hc)
  · rw [wS_no fun z => hc (hA c z), wS_no fun z => hc (hB c z)]
    exact Nat.le_refl _
theorem nl_self (L : Lay) : nlB L L = true := by
  unfold nlB
  rw [List.all_eq_true]
  intro c _
  simp
theorem nl_nil {Ls : List Lay} (h : SOk Ls) : nlB (res []) (res Ls) = true := by
  unfold nlB
  rw [List.all_eq_true]
  intro c _
  rw [w1_res, w1_res]
  have := (wS_len h [c]).1
  show decide ((wS [] [c]).length ≤ _) = true
  exact decide_eq_true this
end Fc
end
section
namespace Fc
open PySem PySem.Spec PyProof.Rows L2 Dl
open Evl (Ex)
/-! ### all orders, plain -/
section
variable {α : Type}
theorem snocRec {C : List α → Prop} (h0 : C []) (h1 : ∀ xs x, C xs → C (xs ++ [x])) (xs : List α) : C xs := by
  have key : ∀ ys : List α, C ys.reverse := fun ys => by
    induction ys with
    | nil => exact h0
    | cons y ys ih => rw [List.reverse_cons]; exact h1 _ _ ih
  have := key xs.reverse
  rwa [List.reverse_reverse] at this
/-- x put in at every place -/
def ins1 (x : α) (row : List α) : List (List α) := (List.range (row.length + 1)).map fun i => row.take i ++ x :: row.drop i
def ords (xs : List α) : List (List α) := xs.foldl (fun F x => F.flatMap (ins1 x)) [[]]
theorem ords_snoc (xs : List α) (x : α) : ords (xs ++ [x]) = (ords xs).flatMap (ins1 x) := by unfold ords; rw [List.foldl_append]; rfl
theorem ins1_mem {x : α} {row r : List α} : r ∈ ins1 x row ↔ ∃ a b, row = a ++ b ∧ r = a ++ x :: b := by
  unfold ins1
  rw [List.mem_map]
  constructor
  · rintro ⟨i, _, rfl⟩
    exact ⟨_, _, (List.take_append_drop i row).symm, rfl⟩
  · rintro ⟨a, b, rfl, rfl⟩
    refine ⟨a.length, List.mem_range.mpr (by rw [List.length_append]; omega), ?_⟩
    rw [List.take_left' rfl, List.drop_left' rfl]
theorem ords_perm' (xs : List α) : ∀ r : List α, r ∈ ords xs ↔ r.Perm xs := by
  refine snocRec (C := fun xs => ∀ r : List α, r ∈ ords xs ↔ r.Perm xs) ?_ ?_ xs
  · intro r; show r ∈ [[]] ↔ _; rw [List.mem_singleton]; exact ⟨fun e => by rw [e], fun p => p.eq_nil⟩
  · intro xs x ih r
    rw [ords_snoc, List.mem_flatMap]
    constructor
    · rintro ⟨row, h1, h2⟩
      obtain ⟨a, b, rfl, rfl⟩ := ins1_mem.mp h2
      have := (ih _).mp h1
      exact List.perm_middle.trans ((List.Perm.cons x this).trans (List.perm_append_singleton x xs).symm)
    · intro p
      have hx : x ∈ r := p.mem_iff.mpr (by simp)
      obtain ⟨a, b, rfl⟩ := List.append_of_mem hx
      refine ⟨a ++ b, (ih _).mpr ?_, ins1_mem.mpr ⟨a, b, rfl, rfl⟩⟩
      have p2 : (x :: (a ++ b)).Perm (x :: xs) := List.perm_middle.symm.trans (p.trans (List.perm_append_singleton x xs))
      exact p2.cons_inv
theorem ords_perm {r xs : List α} : r ∈ ords xs ↔ r.Perm xs := ords_perm' xs r
theorem ins1_len (x : α) (row : List α) : (ins1 x row).length = row.length + 1 := by unfold ins1; rw [List.length_map, List.length_range]
def fact : Nat → Nat
  | 0 => 1
  | n + 1 => fact n * (n + 1)
theorem ords_len : ∀ xs : List α, (ords xs).length = fact xs.length := by
  refine snocRec (C := fun xs => (ords xs).length = fact xs.length) rfl ?_
  · intro xs x ih
    rw [ords_snoc, List.length_append, List.length_singleton]
    have key : ∀ l : List (List α), (∀ r ∈ l, r.length = xs.length) → (l.flatMap (ins1 x)).length = l.length * (xs.length + 1) := by
      intro l
      induction l with
      | nil => intro _; simp
      | cons a l ih2 =>
        intro hl
        rw [List.flatMap_cons, List.length_append, ins1_len, ih2 fun r hr => hl r (List.mem_cons_of_mem _ hr), hl a List.mem_cons_self, List.length_cons, Nat.succ_mul]
        omega
    rw [key _ fun r hr => (ords_perm.mp hr).length_eq, ih]
    rfl
end
/-! ### the different ones -/
section
variable {α β : Type} [DecidableEq α] [DecidableEq β]
def ndp : List α → List α
  | [] => []
  | a :: l => if a ∈ l then ndp l else a :: ndp l
theorem ndp_mem {x : α} : ∀ {l : List α}, x ∈ ndp l ↔ x ∈ l
  | [] => Iff.rfl
  | a :: l => by
    unfold ndp
    split
    · rename_i h
      rw [ndp_mem, List.mem_cons]
      exact ⟨.inr, fun g => g.elim (fun e => e ▸ h) id⟩
    · rw [List.mem_cons, List.mem_cons, ndp_mem]
theorem ndp_nd : ∀ l : List α, (ndp l).Nodup
  | [] => List.nodup_nil
  | a :: l => by
    unfold ndp
    split
    · exact ndp_nd l
    · rename_i h
      exact List.nodup_cons.mpr ⟨fun g => h (ndp_mem.mp g), ndp_nd l⟩
theorem ndp_len (l : List α) : (ndp l).length ≤ l.length := nd_sub_len (ndp_nd l) fun _ h => ndp_mem.mp h
theorem ndp_same {a b : List α} (h : ∀ x, x ∈ a ↔ x ∈ b) : (ndp a).length = (ndp b).length := nd_same_len (ndp_nd a) (ndp_nd b) fun x => by rw [ndp_mem, ndp_mem, h]
end
/-! ### tables as keys -/
def kPair (q : Nat × Tx) : NestedKey := .tup [.text (sL [q.1]), .text (sL q.2)]
def kLay (L : Lay) : NestedKey := .tup (L.map kPair)
theorem datas_map {α : Type} (f : α → NestedKey) : ∀ l : List α, NestedKey.datas (l.map f) = l.map fun x => (f x).data
  | [] => rfl
  | x :: l => by
    show (f x).data :: NestedKey.datas (l.map f) = _
    rw [datas_map f l]; rfl
theorem kLay_data (L : Lay) : (kLay L).data = layD L := by
  show PyData.tuple (NestedKey.datas (L.map kPair)) = PyData.tuple (L.map pairD)
  rw [datas_map]; rfl
theorem kPair_inj {a b : Nat × Tx} (h : kPair a = kPair b) : a = b := by
  unfold kPair at h
  injection h with h
  injection h with h1 h2
  injection h1 with h1
  injection h2 with h2 h3
  injection h2 with h2
  exact Prod.ext (sL1_inj.mp h1) (sL_inj h2)
theorem map_inj {α β : Type} {f : α → β} (hf : ∀ a b, f a = f b → a = b) : ∀ {l m : List α}, l.map f = m.map f → l = m
  | [], [], _ => rfl
  | a :: l, b :: m, h => by
    rw [List.map_cons, List.map_cons] at h
    injection h with h1 h2
    rw [hf _ _ h1, map_inj hf h2]
  | [], _ :: _, h => by simp at h
  | _ :: _, [], h => by simp at h
theorem kLay_inj {a b : Lay} (h : kLay a = kLay b) : a = b := by
  unfold kLay at h
  injection h with h
  exact map_inj (fun _ _ => kPair_inj) h
theorem depthAll_le {n : Nat} : ∀ {l : List NestedKey}, (∀ k ∈ l, k.depth ≤ n) → NestedKey.depthAll l ≤ n
  | [], _ => Nat.zero_le _
  | k :: l, h => by
    show max k.depth (NestedKey.depthAll l) ≤ n
    have h1 := h k List.mem_cons_self
    have h2 := depthAll_le fun x hx => h x (List.mem_cons_of_mem _ hx)
    omega
theorem kLay_ok (L : Lay) : isTup (kLay L) = true ∧ (kLay L).depth ≤ 8 := by
  refine ⟨rfl, ?_⟩
  show NestedKey.depthAll (L.map kPair) + 1 ≤ 8
  have : NestedKey.depthAll (L.map kPair) ≤ 1 := depthAll_le fun k hk => by
    obtain ⟨q, _, rfl⟩ := List.mem_map.mp hk
    show max 0 (max 0 0) + 1 ≤ 1
    omega
  omega
/-- the number of different tables of all orders -/
def cntO (Ls : List Lay) : Nat := (ndp ((ords Ls).map tab)).length
theorem cntO_diff (Ls : List Lay) : Diff (((ords Ls).map tab).map kLay) (cntO Ls) := by
  refine ⟨(ndp ((ords Ls).map tab)).map kLay, ?_, fun k => ?_, by rw [List.length_map]; rfl⟩
  · exact List.Pairwise.map _ (fun a b h e => h (kLay_inj e)) (ndp_nd _)
  · rw [List.mem_map, List.mem_map]
    constructor <;> rintro ⟨a, ha, rfl⟩
    · exact ⟨a, ndp_mem.mp ha, rfl⟩
    · exact ⟨a, ndp_mem.mpr ha, rfl⟩
theorem cntO_perm {Ls Ms : List Lay} (h : Ls.Perm Ms) : cntO Ls = cntO Ms := ndp_same fun x => by
  rw [List.mem_map, List.mem_map]
  constructor <;> rintro ⟨r, hr, rfl⟩
  · exact ⟨r, ords_perm.mpr ((ords_perm.mp hr).trans h), rfl⟩
  · exact ⟨r, ords_perm.mpr ((ords_perm.mp hr).trans h.symm), rfl⟩
theorem cntO_le (Ls : List Lay) : cntO Ls ≤ fact Ls.length := by
  have := ndp_len ((ords Ls).map tab)
  rw [List.length_map, ords_len] at this
  exact this
theorem cntO_pos (Ls : List Lay) : 1 ≤ cntO Ls := List.length_pos_of_mem (ndp_mem.mpr (List.mem_map_of_mem (ords_perm.mpr (List.Perm.refl Ls))))
/-- one table: all orders write alike -/
theorem cntO_one {Ls Ms : List Lay} (h : cntO Ls = 1) (p : Ms.Perm Ls) : tab Ms = tab Ls := by
  have h1 := ndp_mem.mpr (List.mem_map_of_mem (f := tab) (ords_perm.mpr p))
  have h2 := ndp_mem.mpr (List.mem_map_of_mem (f := tab) (ords_perm.mpr (List.Perm.refl Ls)))
  unfold cntO at h
  obtain ⟨a, e⟩ := List.length_eq_one_iff.mp h
  rw [e] at h1 h2
  rw [List.mem_singleton.mp h1, List.mem_singleton.mp h2]
end Fc
end
section
namespace Fc
open PySem PySem.Spec PyProof.Rows L2 Dl
open Evl (Ex)
local macro_rules | `(tactic| walk_at "v") => `(tactic| first | exact ev_v 0 | exact ev_v 1 | exact ev_v 2 | exact ev_v 3 | exact ev_v 4 | exact ev_v 5 | exact ev_v 6 | exact ev_v 7 | exact ev_v 8 | exact ev_v 9 | exact ev_v 10 | exact ev_v 11 | exact ev_v 12 | exact ev_v 13 | exact ev_v 14 | exact ev_v 15 | exact ev_v 16)
local macro_rules | `(tactic| walk_at "side") => `(tactic| first | assumption | rfl | decide | omega | (simp only [List.length_map, List.length_append, List.length_cons, List.length_nil, List.length_singleton] at *; omega))
local macro_rules | `(tactic| walk_at "ck") => `(tactic| (constructor <;> walk_at "side"))
local macro_rules | `(tactic| walk_at "add") => `(tactic| first | exact AddK.nat _ _ | exact AddK.nat1 _ | exact AddK.one _ | exact AddK.int _ _ | (refine AddK.str ?_; walk_at "side") | (refine AddK.lstM ?_; walk_at "side") | (refine AddK.tupM ?_; walk_at "side") | (refine AddK.lst ?_; walk_at "side") | (refine AddK.tup ?_; walk_at "side"))
local macro_rules | `(tactic| walk_at "mul") => `(tactic| first | (refine MulK.nat _ _ ?_; walk_at "side") | (refine MulK.int _ _ ?_; walk_at "side") | (refine MulK.str ?_ ?_ <;> walk_at "side") | (refine MulK.lst ?_ ?_ <;> walk_at "side"))
local macro_rules | `(tactic| walk_at "eq") => `(tactic| first | exact EqK.nat _ _ | exact EqK.int _ _ | exact EqK.str _ _ | exact EqK.bool _ _ | exact EqK.nonS _ | exact EqK.strN _ | exact EqK.intS _ _ | exact EqK.strI _ _ | exact EqK.nonI _ | exact EqK.intN _ | exact EqK.nonN | (refine EqK.gen ?_ ?_ ?_ <;> walk_at "side"))
local macro_rules | `(tactic| walk_at "lt") => `(tactic| first | exact LtK.nat _ _ | exact LtK.int _ _ | exact LtK.str _ _)
local macro_rules | `(tactic| walk_at "le") => `(tactic| first | exact LeK.nat _ _ | exact LeK.int _ _)
local macro_rules | `(tactic| walk_at "len") => `(tactic| first | (refine LenK.str ?_; walk_at "side") | exact LenK.lstM _ | exact LenK.tupM _ | exact LenK.lst _ | exact LenK.tup _)
local macro_rules | `(tactic| walk_at "ix") => `(tactic| first | (refine IxK.lst ?_; first | rfl | assumption) | (refine IxK.tup ?_; first | rfl | assumption) | (refine IxK.lN ?_; first | rfl | assumption) | (refine IxK.tN ?_; first | rfl | assumption) | (refine IxK.sN ?_ ?_ <;> walk_at "side"))
local macro_rules | `(tactic| walk_at "get") => `(tactic| first | exact GetK.mk _ _ _)
local macro_rules | `(tactic| walk_at "sl") => `(tactic| first | exact SlK.tFrom _ _ | exact SlK.tTo _ _ | exact SlK.lFrom _ _ | exact SlK.lTo _ _ | (refine SlK.sFrom _ _ ?_; walk_at "side") | (refine SlK.sTo _ _ ?_; walk_at "side") | (refine SlK.sMid _ _ _ ?_; walk_at "side") | exact SlK.tup _ _ _ | exact SlK.lst _ _ _ | (refine SlK.str ?_; walk_at "side"))
local macro_rules | `(tactic| walk_at "lit") => `(tactic| first | exact ev_strE (y := sL []) (by decide +kernel))
local macro_rules | `(tactic| walk_at "op") => `(tactic| (show OpI _ _ _ _ _ _ _; first | exact op_none | (refine' op_some ?_; (any_goals (walk_at "x")); done)))
local macro_rules | `(tactic| walk_at "blk") => `(tactic| exact blkOk_by (by kernel_rfl))
local macro_rules | `(tactic| walk_at "il") => `(tactic| first
  | (refine' il_tup ?_; (any_goals (walk_at "x")); done)
  | (refine' il_list ?_; (any_goals (walk_at "x")); done)
  | (refine' il_str ?_; (any_goals (walk_at "x")); done))
local macro_rules | `(tactic| walk_at "xs") => `(tactic| (show AV _ _ _ _ _ _ _; first | exact a_nil | (refine' a_cons ?_ ?_; (any_goals (walk_at "x")); (any_goals (walk_at "xs")); done)))
local macro_rules | `(tactic| walk_at "u") => `(tactic| (refine' x_call (by assumption) ?_ ?_ (by assumption); (any_goals (walk_at "xs")); (any_goals (walk_at "ck")); done))
local macro_rules | `(tactic| walk_at "x") => `(tactic| first
  | (show EV _ _ (Expr.Name _ _) _ _ _ _; walk_at "v")
  | (show EV _ _ (Expr.Constant _ _ _) _ _ _ _; first | exact ev_int | exact ev_bl | exact ev_non | walk_at "lit")
  | (show EV _ _ (Expr.BinOp _ Operator.Add _ _) _ _ _ _; refine' x_add ?_ ?_ ?_; (any_goals (walk_at "x")); (any_goals (walk_at "add")); done)
  | (show EV _ _ (Expr.BinOp _ Operator.Sub _ _) _ _ _ _; refine' x_sub ?_ ?_; (any_goals (walk_at "x")); done)
  | (show EV _ _ (Expr.BinOp _ Operator.Mult _ _) _ _ _ _; refine' x_mul ?_ ?_ ?_; (any_goals (walk_at "x")); (any_goals (walk_at "mul")); done)
  | (show EV _ _ (Expr.Call (Expr.Attribute _ "get" _) _ _ _) _ _ _ _; refine' x_get ?_ ?_ ?_ ?_ (by assumption); (any_goals (walk_at "x")); (any_goals (walk_at "get")); done)
  | (show EV _ _ (Expr.Call (Expr.Name "len" _) _ _ _) _ _ _ _; refine' x_len ?_ ?_ (by assumption); (any_goals (walk_at "x")); (any_goals (walk_at "len")); done)
  | (show EV _ _ (Expr.Call (Expr.Name _ _) _ _ _) _ _ _ _; walk_at "u")
  | (show EV _ _ (Expr.Subscript _ (Expr.Slice _ _ _ _) _) _ _ _ _; refine' x_sl ?_ ?_ ?_ ?_; (any_goals (walk_at "x")); (any_goals (walk_at "op")); (any_goals (walk_at "sl")); done)
  | (show EV _ _ (Expr.Subscript _ _ _) _ _ _ _; refine' x_ix ?_ ?_ ?_; (any_goals (walk_at "x")); (any_goals (walk_at "ix")); done)
  | (show EV _ _ (Expr.Tuple _ _ _) _ _ _ _; refine' x_tup ?_; (any_goals (walk_at "xs")); done)
  | (show EV _ _ (Expr.List _ _) _ _ _ _; refine' x_lst ?_; (any_goals (walk_at "xs")); done)
  | (show EV _ _ (Expr.Compare _ [CmpOp.Eq] _ _) _ _ _ _; refine' x_eq ?_ ?_ ?_ (by assumption); (any_goals (walk_at "x")); (any_goals (walk_at "eq")); done)
  | (show EV _ _ (Expr.Compare _ [CmpOp.NotEq] _ _) _ _ _ _; refine' x_ne ?_ ?_ ?_ (by assumption); (any_goals (walk_at "x")); (any_goals (walk_at "eq")); done)
  | (show EV _ _ (Expr.Compare _ [CmpOp.Lt] _ _) _ _ _ _; refine' x_lt ?_ ?_ ?_; (any_goals (walk_at "x")); (any_goals (walk_at "lt")); done)
  | (show EV _ _ (Expr.Compare _ [CmpOp.Gt] _ _) _ _ _ _; refine' x_gt ?_ ?_ ?_; (any_goals (walk_at "x")); (any_goals (walk_at "le")); done)
  | (show EV _ _ (Expr.Compare _ [CmpOp.LtE] _ _) _ _ _ _; refine' x_le ?_ ?_ ?_; (any_goals (walk_at "x")); (any_goals (walk_at "le")); done)
  | (show EV _ _ (Expr.UnaryOp _ _ _) _ _ _ _; refine' ev_not ?_; (any_goals (walk_at "x")); done))
local macro_rules | `(tactic| walk_at "t") => `(tactic| first
  | (show TV _ _ (Expr.Compare _ [CmpOp.Eq] _ _) _ _ _ _; refine' t_eq ?_ ?_ ?_ (by assumption); (any_goals (walk_at "x")); (any_goals (walk_at "eq")); done)
  | (show TV _ _ (Expr.Compare _ [CmpOp.NotEq] _ _) _ _ _ _; refine' t_ne ?_ ?_ ?_ (by assumption); (any_goals (walk_at "x")); (any_goals (walk_at "eq")); done)
  | (show TV _ _ (Expr.Compare _ [CmpOp.Lt] _ _) _ _ _ _; refine' t_lt ?_ ?_ ?_; (any_goals (walk_at "x")); (any_goals (walk_at "lt")); done)
  | (show TV _ _ (Expr.Compare _ [CmpOp.Gt] _ _) _ _ _ _; refine' t_gt ?_ ?_ ?_; (any_goals (walk_at "x")); (any_goals (walk_at "le")); done)
  | (show TV _ _ (Expr.Compare _ [CmpOp.LtE] _ _) _ _ _ _; refine' t_le ?_ ?_ ?_; (any_goals (walk_at "x")); (any_goals (walk_at "le")); done)
  | (show TV _ _ (Expr.Compare _ [CmpOp.Is] _ _) _ _ _ _; refine' t_isN ?_; (any_goals (walk_at "x")); done)
  | (show TV _ _ (Expr.Compare _ [CmpOp.IsNot] _ _) _ _ _ _; refine' t_notN ?_; (any_goals (walk_at "x")); done)
  | (show TV _ _ (Expr.UnaryOp UnaryOp.Not _ _) _ _ _ _; refine' tv_not ?_; (any_goals (walk_at "t")); done)
  | (show TV _ _ _ _ _ _ _; refine' tv_e ?_; (any_goals (walk_at "x")); done))
section
variable {P : Program} {w : World} {K : PySem.W.Frag} {mg : Str → Option Value} {base : Heap}
/-! ### orders, count_orders -/
inductive FOrders : List PyData → PyData → Prop
  | mk {Ls : List Lay} (hl : Ls.length ≤ 5) : FOrders [stkD Ls] (.list ((ords Ls).map stkD))
theorem flat_ins_len {α : Type} (x : α) {n : Nat} : ∀ {l : List (List α)}, (∀ r ∈ l, r.length = n) → (l.flatMap (ins1 x)).length = l.length * (n + 1)
  | [], _ => by simp
  | a :: l, h => by
    rw [List.flatMap_cons, List.length_append, ins1_len, flat_ins_len x fun r hr => h r (List.mem_cons_of_mem _ hr), h a List.mem_cons_self, List.length_cons, Nat.succ_mul]
    omega
theorem fact_le {n : Nat} (h : n ≤ 5) : fact n ≤ 120 := by
  have : n = 0 ∨ n = 1 ∨ n = 2 ∨ n = 3 ∨ n = 4 ∨ n = 5 := by omega
  rcases this with rfl | rfl | rfl | rfl | rfl | rfl <;> decide
theorem c_orders (D : Dfn K mg "orders" s_orders) (b : Bn mg) : Cal P w K mg base "orders" 1 ["items"] (PF FOrders) := by
  refine cal_pf D sc_orders (fun _ _ _ _ _ _ us hl => match us, hl with | [_], _ => rfl) (fun _ _ h => by cases h; rfl) ?_
  rintro f cdv A outer s H E R ds d hr hF
  have nd := sc_orders.nd
  cases hF with | @mk Ls hl
  refine sj_set 1 (k := .dat (.list ((ords ([] : List Lay)).map stkD))) (x_lst (ds := [stkD []]) (a_cons (x_tup (ds := []) a_nil) a_nil)) ?_ nd
  refine sj_forL 2 (xs := Ls) (inj := fun L => .dat (layD L)) (fun pre ss O => ∃ k2 k3 k4 k5, ss = [.dat (stkD Ls), .dat (.list ((ords pre).map stkD)), k2, k3, k4, k5] ∧ O = []) nd (il_tup (ev_v 0)) ⟨_, _, _, _, rfl, rfl⟩ ?_ ?_
  · rintro pre L post e ss1 O1 ⟨k2, k3, k4, k5, rfl, rfl⟩
    have lp : pre.length ≤ 4 := by rw [e, List.length_append, List.length_cons] at hl; omega
    have lo : (ords pre).length ≤ 120 := by rw [ords_len]; exact fact_le (by omega)
    refine sj_set 3 (k := .dat (.list ((([] : List (List Lay)).flatMap (ins1 L)).map stkD))) (x_lst (ds := []) a_nil) ?_ nd
    refine sj_forL 4 (xs := ords pre) (inj := fun r => .dat (stkD r)) (fun p2 ss O => ∃ k4 k5, ss = [.dat (stkD Ls), .dat (.list ((ords pre).map stkD)), .dat (layD L), .dat (.list ((p2.flatMap (ins1 L)).map stkD)), k4, k5] ∧ O = []) nd (il_list (ev_v 1)) ⟨_, _, rfl, rfl⟩ ?_ ?_
    · rintro p2 row post2 e2 ss1 O1 ⟨k4, k5, rfl, rfl⟩
      have hrow : row.length = pre.length := (ords_perm.mp (by rw [e2]; simp : row ∈ ords pre)).length_eq
      have hp2 : ∀ r ∈ p2, r.length = pre.length := fun r hr' => (ords_perm.mp (by rw [e2]; simp [hr'] : r ∈ ords pre)).length_eq
      have lf := flat_ins_len L hp2
      have lp2 : p2.length ≤ 120 := by rw [e2, List.length_append] at lo; omega
      have lm : p2.length * (pre.length + 1) ≤ 120 * 5 := Nat.mul_le_mul lp2 (by omega)
      refine sj_set 3 (k := .dat (.list (((p2 ++ [row]).flatMap (ins1 L)).map stkD))) (ev_as ?_ (x_add (ev_v 3) (x_lc (lj_mapL 5 (xs := List.range (row.length + 1)) (inj := fun (i : Nat) => .dat (.int (i : Nat))) (f := fun i => stkD (row.take i ++ L :: row.drop i))
        (il_range (x_add (x_len (ev_v 4) (.tupM _) b) ev_int (.nat1 _)) rfl (by omega) b.range) (by rw [List.length_range]; omega) (by walk_at "blk") nd (fun i hi s H C cl fp => ?_)) nd) (.lst ?_))) (sj_nil ⟨_, _, rfl, rfl⟩) nd
      · rw [List.flatMap_append, List.map_append]
        congr 2
        show _ = ([row].flatMap (ins1 L)).map stkD
        rw [List.flatMap_cons, List.flatMap_nil, List.append_nil]
        unfold ins1
        rw [List.map_map]
        rfl
      · refine ev_as ?_ (x_add (x_add (x_sl (ev_v 4) op_none (op_some (ev_v 5)) (.tTo _ i)) (x_tup (ds := [layD L]) (a_cons (ev_v 2) a_nil)) (.tup ?_)) (x_sl (ev_v 4) (op_some (ev_v 5)) op_none (.tFrom _ i)) (.tup ?_))
        · unfold stkD
          rw [List.map_append, List.map_cons, List.map_take, List.map_drop]
          simp
        · rw [List.length_map, List.length_take, List.length_singleton]; omega
        · rw [List.length_append, List.length_map, List.length_map, List.length_take, List.length_singleton, List.length_drop]; omega
      · rw [List.length_map, List.length_map, List.length_range]; omega
    · rintro ss1 O1 ⟨k4, k5, rfl, rfl⟩
      exact sj_set 1 (ev_v 3) (sj_nil ⟨_, _, _, _, by rw [ords_snoc]; rfl, rfl⟩) nd
  · rintro ss1 O1 ⟨k2, k3, k4, k5, rfl, rfl⟩
    exact sj_ret (ev_v 1) rfl
inductive FCountO : List PyData → PyData → Prop
  | mk {Ls : List Lay} (h : SOk Ls) (hl : Ls.length ≤ 5) (hc : cntO Ls ≤ 300) : FCountO [stkD Ls] (.int (cntO Ls : Nat))
theorem c_count_orders (D : Dfn K mg "count_orders" s_count_orders) (b : Bn mg) (c1 : Cal P w K mg base "need_stack" 5 ["value"] (PF FNeedS)) (c2 : Cal P w K mg base "table_of" 4 ["stack"] (PF FTableOf)) (c3 : Cal P w K mg base "orders" 1 ["items"] (PF FOrders)) : Cal P w K mg base "count_orders" 6 ["stack"] (PF FCountO) := by
  refine cal_pf D sc_count_orders (fun _ _ _ _ _ _ us hl => match us, hl with | [_], _ => rfl) (fun _ _ h => by cases h; rfl) ?_
  rintro f cdv A outer s H E R ds d hr hF
  have nd := sc_count_orders.nd
  cases hF with | @mk Ls h hl hc
  refine sj_expr (x_call c1 (a_cons (ev_v 0) a_nil) (.mk h hl) hr) ?_
  refine sj_ret (x_lenSetN (ks := ((ords Ls).map tab).map kLay) (x_lc (lj_mapL 1 (xs := ords Ls) (inj := fun r => .dat (stkD r)) (f := fun r => layD (tab r)) (il_list (x_call c3 (a_cons (ev_v 0) a_nil) (.mk hl) hr)) (by rw [ords_len]; have := fact_le hl; omega) (by walk_at "blk") nd (fun r hr' s H C cl fp => x_call c2 (a_cons (ev_v 1) a_nil) (.mk ?_ ?_) hr)) nd) ?_ (fun k hk => ?_) ((ndp ((ords Ls).map tab)).map kLay) (by rw [List.length_map]; exact hc) (fun k hk => ?_) (cntO_diff Ls) b hr) rfl
  · exact fun L hL => h L ((ords_perm.mp hr').mem_iff.mp hL)
  · rw [(ords_perm.mp hr').length_eq]; omega
  · rw [List.map_map, List.map_map]
    exact List.map_congr_left fun r _ => (kLay_data _).symm
  · obtain ⟨L, _, rfl⟩ := List.mem_map.mp hk
    exact kLay_ok L
  · obtain ⟨L, hL, rfl⟩ := List.mem_map.mp hk
    exact List.mem_map_of_mem (ndp_mem.mpr hL)
end
end Fc
end
section
namespace Fc
open PySem PySem.Spec PyProof.Rows L2 Dl
open Evl (Ex)
/-! telling signs, tables, growth by layers (plain) -/
theorem tel_none {A B : List Lay} : tel A B = none ↔ tab A = tab B := by
  rw [tab_eq]
  unfold tel
  rw [List.find?_eq_none]
  constructor
  · intro h t
    rw [wS_flat A, wS_flat B]
    congr 1
    funext c
    by_cases hc : c ∈ sgs A ∨ c ∈ sgs B
    · have := h c (dsg_mem.mpr (List.mem_append.mpr (hc.imp res_fst.mpr res_fst.mpr)))
      simpa using this
    · rw [not_or] at hc
      rw [wS_no hc.1, wS_no hc.2]
  · intro h c _
    simp [h [c]]
theorem tel_some {A B : List Lay} {c : Nat} (h : tel A B = some c) : wS A [c] ≠ wS B [c] ∧ (c ∈ sgs A ∨ c ∈ sgs B) := by
  unfold tel at h
  have h1 := List.find?_some h
  have h2 := dsg_mem.mp (List.mem_of_find?_eq_some h)
  exact ⟨by simpa using h1, (List.mem_append.mp h2).imp res_fst.mp res_fst.mp⟩
theorem tel_symm (A B : List Lay) : tel B A = tel A B := by
  unfold tel
  rw [dsg_congr (l := (res B).map (·.1) ++ (res A).map (·.1)) (l' := (res A).map (·.1) ++ (res B).map (·.1)) fun c => by rw [List.mem_append, List.mem_append]; exact Or.comm]
  congr 1
  funext c
  by_cases h : wS A [c] = wS B [c]
  · simp [h]
  · have h' : ¬ wS B [c] = wS A [c] := fun e => h e.symm
    simp [h, h']
theorem telD_non (o : Option Nat) : isNoD (telD o) = o.isNone := by cases o <;> rfl
theorem pl_telD {A B : List Lay} (hA : SOk A) (hB : SOk B) : pl (telD (tel A B)) = true := by
  cases h : tel A B with
  | none => rfl
  | some c => exact pl_one ((tel_some h).2.elim (sgs_sgn hA c) (sgs_sgn hB c))
theorem wL_tab (Ls : List Lay) (t : Tx) : wL (tab Ls) t = wS Ls t := by
  rw [wS_flat]
  unfold wL
  congr 1
  funext c
  exact w1_tab Ls c
theorem lk_tab (Ls : List Lay) (c : Nat) : (lk (tab Ls) c).isSome = !decide (wS Ls [c] = [c]) := by
  have h := w1_tab Ls c
  unfold w1 at h
  cases e : lk (tab Ls) c with
  | none =>
    rw [e] at h
    have h' : [c] = wS Ls [c] := h
    simp [← h']
  | some v =>
    rw [e] at h
    have h' : v = wS Ls [c] := h
    have := (List.mem_filter.mp (lk_mem e)).2
    rw [h'] at this
    simpa using this
/-- a text stays as it is where each of its signs does -/
theorem wS_stays {Ls : List Lay} (h : SOk Ls) : ∀ t : Tx, wS Ls t = t ↔ ∀ c ∈ t, wS Ls [c] = [c]
  | [] => by simp [wS_flat Ls []]
  | c :: t => by
    have ih := wS_stays h t
    have e : wS Ls (c :: t) = wS Ls [c] ++ wS Ls t := wS_app Ls [c] t
    have l1 := (wS_len h [c]).1
    have l2 := (wS_len h t).1
    rw [e, List.forall_mem_cons, ← ih]
    constructor
    · intro g
      have gl := congrArg List.length g
      rw [List.length_append, List.length_cons] at gl
      rw [List.length_singleton] at l1
      have g' : wS Ls [c] ++ wS Ls t = [c] ++ t := g
      exact List.append_inj g' (by rw [List.length_singleton]; omega)
    · rintro ⟨g1, g2⟩
      rw [g1, g2]; rfl
theorem wL_mst {po : Tx} {most : Nat} (h1 : 1 ≤ most) {L : Lay} (h : IsLay po most L) : ∀ t : Tx, (wL L t).length ≤ most * t.length
  | [] => by simp [wL_nil]
  | c :: t => by
    have a : (w1 L c).length ≤ most := by
      unfold w1
      cases e : lk L c with
      | none => exact h1
      | some r => exact (h.ok _ (lk_mem e)).2.2.1
    have b := wL_mst h1 h t
    rw [wL_cons, List.length_append, List.length_cons, Nat.mul_succ]
    omega
theorem wS_mst {po : Tx} {most : Nat} (h1 : 1 ≤ most) : ∀ {Ls : List Lay} {n : Nat}, (∀ L ∈ Ls, IsLay po most L) → Ls.length ≤ n → ∀ t : Tx, (wS Ls t).length ≤ most ^ n * t.length
  | [], n, _, _, t => by
    show t.length ≤ _
    exact Nat.le_mul_of_pos_left _ (Nat.pow_pos h1)
  | L :: Ls, 0, _, h, t => by simp at h
  | L :: Ls, n + 1, h, hn, t => by
    have a := wL_mst h1 (h L List.mem_cons_self) t
    have b := wS_mst (n := n) h1 (fun M hM => h M (List.mem_cons_of_mem _ hM)) (by simpa using hn) (wL L t)
    have e : wS (L :: Ls) t = wS Ls (wL L t) := rfl
    rw [e, Nat.pow_succ]
    refine Nat.le_trans b ?_
    rw [Nat.mul_assoc]
    exact Nat.mul_le_mul_left _ a
end Fc
end
section
namespace Fc
open PySem PySem.Spec PyProof.Rows L2 Dl
open Evl (Ex)
local macro_rules | `(tactic| walk_at "v") => `(tactic| first | exact ev_v 0 | exact ev_v 1 | exact ev_v 2 | exact ev_v 3 | exact ev_v 4 | exact ev_v 5 | exact ev_v 6 | exact ev_v 7 | exact ev_v 8 | exact ev_v 9 | exact ev_v 10 | exact ev_v 11 | exact ev_v 12 | exact ev_v 13 | exact ev_v 14 | exact ev_v 15 | exact ev_v 16)
local macro_rules | `(tactic| walk_at "side") => `(tactic| first | assumption | rfl | decide | omega | (simp only [List.length_map, List.length_append, List.length_cons, List.length_nil, List.length_singleton] at *; omega))
local macro_rules | `(tactic| walk_at "ck") => `(tactic| (constructor <;> walk_at "side"))
local macro_rules | `(tactic| walk_at "add") => `(tactic| first | exact AddK.nat _ _ | exact AddK.nat1 _ | exact AddK.one _ | exact AddK.int _ _ | (refine AddK.str ?_; walk_at "side") | (refine AddK.lstM ?_; walk_at "side") | (refine AddK.tupM ?_; walk_at "side") | (refine AddK.lst ?_; walk_at "side") | (refine AddK.tup ?_; walk_at "side"))
local macro_rules | `(tactic| walk_at "mul") => `(tactic| first | (refine MulK.nat _ _ ?_; walk_at "side") | (refine MulK.int _ _ ?_; walk_at "side") | (refine MulK.str ?_ ?_ <;> walk_at "side") | (refine MulK.lst ?_ ?_ <;> walk_at "side"))
local macro_rules | `(tactic| walk_at "eq") => `(tactic| first | exact EqK.nat _ _ | exact EqK.int _ _ | exact EqK.str _ _ | exact EqK.bool _ _ | exact EqK.nonS _ | exact EqK.strN _ | exact EqK.intS _ _ | exact EqK.strI _ _ | exact EqK.nonI _ | exact EqK.intN _ | exact EqK.nonN | (refine EqK.gen ?_ ?_ ?_ <;> walk_at "side"))
local macro_rules | `(tactic| walk_at "lt") => `(tactic| first | exact LtK.nat _ _ | exact LtK.int _ _ | exact LtK.str _ _)
local macro_rules | `(tactic| walk_at "le") => `(tactic| first | exact LeK.nat _ _ | exact LeK.int _ _)
local macro_rules | `(tactic| walk_at "len") => `(tactic| first | (refine LenK.str ?_; walk_at "side") | exact LenK.lstM _ | exact LenK.tupM _ | exact LenK.lst _ | exact LenK.tup _)
local macro_rules | `(tactic| walk_at "ix") => `(tactic| first | (refine IxK.lst ?_; first | rfl | assumption) | (refine IxK.tup ?_; first | rfl | assumption) | (refine IxK.lN ?_; first | rfl | assumption) | (refine IxK.tN ?_; first | rfl | assumption) | (refine IxK.sN ?_ ?_ <;> walk_at "side"))
local macro_rules | `(tactic| walk_at "get") => `(tactic| first | exact GetK.mk _ _ _)
local macro_rules | `(tactic| walk_at "sl") => `(tactic| first | exact SlK.tFrom _ _ | exact SlK.tTo _ _ | exact SlK.lFrom _ _ | exact SlK.lTo _ _ | (refine SlK.sFrom _ _ ?_; walk_at "side") | (refine SlK.sTo _ _ ?_; walk_at "side") | (refine SlK.sMid _ _ _ ?_; walk_at "side") | exact SlK.tup _ _ _ | exact SlK.lst _ _ _ | (refine SlK.str ?_; walk_at "side"))
local macro_rules | `(tactic| walk_at "lit") => `(tactic| first | exact ev_strE (y := sL []) (by decide +kernel))
local macro_rules | `(tactic| walk_at "op") => `(tactic| (show OpI _ _ _ _ _ _ _; first | exact op_none | (refine' op_some ?_; (any_goals (walk_at "x")); done)))
local macro_rules | `(tactic| walk_at "blk") => `(tactic| exact blkOk_by (by kernel_rfl))
local macro_rules | `(tactic| walk_at "il") => `(tactic| first
  | (refine' il_tup ?_; (any_goals (walk_at "x")); done)
  | (refine' il_list ?_; (any_goals (walk_at "x")); done)
  | (refine' il_str ?_; (any_goals (walk_at "x")); done))
local macro_rules | `(tactic| walk_at "xs") => `(tactic| (show AV _ _ _ _ _ _ _; first | exact a_nil | (refine' a_cons ?_ ?_; (any_goals (walk_at "x")); (any_goals (walk_at "xs")); done)))
local macro_rules | `(tactic| walk_at "u") => `(tactic| (refine' x_call (by assumption) ?_ ?_ (by assumption); (any_goals (walk_at "xs")); (any_goals (walk_at "ck")); done))
local macro_rules | `(tactic| walk_at "x") => `(tactic| first
  | (show EV _ _ (Expr.Name _ _) _ _ _ _; walk_at "v")
  | (show EV _ _ (Expr.Constant _ _ _) _ _ _ _; first | exact ev_int | exact ev_bl | exact ev_non | walk_at "lit")
  | (show EV _ _ (Expr.BinOp _ Operator.Add _ _) _ _ _ _; refine' x_add ?_ ?_ ?_; (any_goals (walk_at "x")); (any_goals (walk_at "add")); done)
  | (show EV _ _ (Expr.BinOp _ Operator.Sub _ _) _ _ _ _; refine' x_sub ?_ ?_; (any_goals (walk_at "x")); done)
  | (show EV _ _ (Expr.BinOp _ Operator.Mult _ _) _ _ _ _; refine' x_mul ?_ ?_ ?_; (any_goals (walk_at "x")); (any_goals (walk_at "mul")); done)
  | (show EV _ _ (Expr.Call (Expr.Attribute _ "get" _) _ _ _) _ _ _ _; refine' x_get ?_ ?_ ?_ ?_ (by assumption); (any_goals (walk_at "x")); (any_goals (walk_at "get")); done)
  | (show EV _ _ (Expr.Call (Expr.Name "len" _) _ _ _) _ _ _ _; refine' x_len ?_ ?_ (by assumption); (any_goals (walk_at "x")); (any_goals (walk_at "len")); done)
  | (show EV _ _ (Expr.Call (Expr.Name _ _) _ _ _) _ _ _ _; walk_at "u")
  | (show EV _ _ (Expr.Subscript _ (Expr.Slice _ _ _ _) _) _ _ _ _; refine' x_sl ?_ ?_ ?_ ?_; (any_goals (walk_at "x")); (any_goals (walk_at "op")); (any_goals (walk_at "sl")); done)
  | (show EV _ _ (Expr.Subscript _ _ _) _ _ _ _; refine' x_ix ?_ ?_ ?_; (any_goals (walk_at "x")); (any_goals (walk_at "ix")); done)
  | (show EV _ _ (Expr.Tuple _ _ _) _ _ _ _; refine' x_tup ?_; (any_goals (walk_at "xs")); done)
  | (show EV _ _ (Expr.List _ _) _ _ _ _; refine' x_lst ?_; (any_goals (walk_at "xs")); done)
  | (show EV _ _ (Expr.Compare _ [CmpOp.Eq] _ _) _ _ _ _; refine' x_eq ?_ ?_ ?_ (by assumption); (any_goals (walk_at "x")); (any_goals (walk_at "eq")); done)
  | (show EV _ _ (Expr.Compare _ [CmpOp.NotEq] _ _) _ _ _ _; refine' x_ne ?_ ?_ ?_ (by assumption); (any_goals (walk_at "x")); (any_goals (walk_at "eq")); done)
  | (show EV _ _ (Expr.Compare _ [CmpOp.Lt] _ _) _ _ _ _; refine' x_lt ?_ ?_ ?_; (any_goals (walk_at "x")); (any_goals (walk_at "lt")); done)
  | (show EV _ _ (Expr.Compare _ [CmpOp.Gt] _ _) _ _ _ _; refine' x_gt ?_ ?_ ?_; (any_goals (walk_at "x")); (any_goals (walk_at "le")); done)
  | (show EV _ _ (Expr.Compare _ [CmpOp.LtE] _ _) _ _ _ _; refine' x_le ?_ ?_ ?_; (any_goals (walk_at "x")); (any_goals (walk_at "le")); done)
  | (show EV _ _ (Expr.UnaryOp _ _ _) _ _ _ _; refine' ev_not ?_; (any_goals (walk_at "x")); done))
local macro_rules | `(tactic| walk_at "t") => `(tactic| first
  | (show TV _ _ (Expr.Compare _ [CmpOp.Eq] _ _) _ _ _ _; refine' t_eq ?_ ?_ ?_ (by assumption); (any_goals (walk_at "x")); (any_goals (walk_at "eq")); done)
  | (show TV _ _ (Expr.Compare _ [CmpOp.NotEq] _ _) _ _ _ _; refine' t_ne ?_ ?_ ?_ (by assumption); (any_goals (walk_at "x")); (any_goals (walk_at "eq")); done)
  | (show TV _ _ (Expr.Compare _ [CmpOp.Lt] _ _) _ _ _ _; refine' t_lt ?_ ?_ ?_; (any_goals (walk_at "x")); (any_goals (walk_at "lt")); done)
  | (show TV _ _ (Expr.Compare _ [CmpOp.Gt] _ _) _ _ _ _; refine' t_gt ?_ ?_ ?_; (any_goals (walk_at "x")); (any_goals (walk_at "le")); done)
  | (show TV _ _ (Expr.Compare _ [CmpOp.LtE] _ _) _ _ _ _; refine' t_le ?_ ?_ ?_; (any_goals (walk_at "x")); (any_goals (walk_at "le")); done)
  | (show TV _ _ (Expr.Compare _ [CmpOp.Is] _ _) _ _ _ _; refine' t_isN ?_; (any_goals (walk_at "x")); done)
  | (show TV _ _ (Expr.Compare _ [CmpOp.IsNot] _ _) _ _ _ _; refine' t_notN ?_; (any_goals (walk_at "x")); done)
  | (show TV _ _ (Expr.UnaryOp UnaryOp.Not _ _) _ _ _ _; refine' tv_not ?_; (any_goals (walk_at "t")); done)
  | (show TV _ _ _ _ _ _ _; refine' tv_e ?_; (any_goals (walk_at "x")); done))
section
variable {P : Program} {w : World} {K : PySem.W.Frag} {mg : Str → Option Value} {base : Heap}
/-! ### _law_run -/
inductive FLRun : List PyData → PyData → Prop
  | mk {T : Lay} {t : Tx} (ht : t.length ≤ 100000) (hw : (wL T t).length ≤ 1000000) : FLRun [dK (tKv T), dS t] (dS (wL T t))
theorem c_lrun (D : Dfn K mg "_law_run" s_law_run) (b : Bn mg) : Cal P w K mg base "_law_run" 1 ["known", "text"] (PF FLRun) := by
  refine cal_pf D sc_law_run (fun _ _ _ _ _ _ us hl => match us, hl with | [_, _], _ => rfl) (fun _ _ h => by cases h; rfl) ?_
  rintro f cdv A outer s H E R ds d hr hF
  have nd := sc_law_run.nd
  cases hF with | @mk T t ht hw
  refine sj_ret (x_joinM (g := w1 T) ev_str (x_lc (lj_mapL 2 (xs := t) (by walk_at "il") (by omega) (by walk_at "blk") nd (fun z hz s H C cl fp => ?_)) nd) ?_) rfl
  · exact x_get (ev_v 0) (ev_v 2) (ev_v 2) (GetK.t1 T z) hr
  · exact Nat.le_trans hw (by decide)
end
end Fc
end
section
namespace Fc
open PySem PySem.Spec PyProof.Rows L2 Dl
open Evl (Ex)
local macro_rules | `(tactic| walk_at "v") => `(tactic| first | exact ev_v 0 | exact ev_v 1 | exact ev_v 2 | exact ev_v 3 | exact ev_v 4 | exact ev_v 5 | exact ev_v 6 | exact ev_v 7 | exact ev_v 8 | exact ev_v 9 | exact ev_v 10 | exact ev_v 11 | exact ev_v 12 | exact ev_v 13 | exact ev_v 14 | exact ev_v 15 | exact ev_v 16)
local macro_rules | `(tactic| walk_at "side") => `(tactic| first | assumption | rfl | decide | omega | (simp only [List.length_map, List.length_append, List.length_cons, List.length_nil, List.length_singleton] at *; omega))
local macro_rules | `(tactic| walk_at "ck") => `(tactic| (constructor <;> walk_at "side"))
local macro_rules | `(tactic| walk_at "add") => `(tactic| first | exact AddK.nat _ _ | exact AddK.nat1 _ | exact AddK.one _ | exact AddK.int _ _ | (refine AddK.str ?_; walk_at "side") | (refine AddK.lstM ?_; walk_at "side") | (refine AddK.tupM ?_; walk_at "side") | (refine AddK.lst ?_; walk_at "side") | (refine AddK.tup ?_; walk_at "side"))
local macro_rules | `(tactic| walk_at "mul") => `(tactic| first | (refine MulK.nat _ _ ?_; walk_at "side") | (refine MulK.int _ _ ?_; walk_at "side") | (refine MulK.str ?_ ?_ <;> walk_at "side") | (refine MulK.lst ?_ ?_ <;> walk_at "side"))
local macro_rules | `(tactic| walk_at "eq") => `(tactic| first | exact EqK.nat _ _ | exact EqK.int _ _ | exact EqK.str _ _ | exact EqK.bool _ _ | exact EqK.nonS _ | exact EqK.strN _ | exact EqK.intS _ _ | exact EqK.strI _ _ | exact EqK.nonI _ | exact EqK.intN _ | exact EqK.nonN | (refine EqK.gen ?_ ?_ ?_ <;> walk_at "side"))
local macro_rules | `(tactic| walk_at "lt") => `(tactic| first | exact LtK.nat _ _ | exact LtK.int _ _ | exact LtK.str _ _)
local macro_rules | `(tactic| walk_at "le") => `(tactic| first | exact LeK.nat _ _ | exact LeK.int _ _)
local macro_rules | `(tactic| walk_at "len") => `(tactic| first | (refine LenK.str ?_; walk_at "side") | exact LenK.lstM _ | exact LenK.tupM _ | exact LenK.lst _ | exact LenK.tup _)
local macro_rules | `(tactic| walk_at "ix") => `(tactic| first | (refine IxK.lst ?_; first | rfl | assumption) | (refine IxK.tup ?_; first | rfl | assumption) | (refine IxK.lN ?_; first | rfl | assumption) | (refine IxK.tN ?_; first | rfl | assumption) | (refine IxK.sN ?_ ?_ <;> walk_at "side"))
local macro_rules | `(tactic| walk_at "get") => `(tactic| first | exact GetK.mk _ _ _)
local macro_rules | `(tactic| walk_at "sl") => `(tactic| first | exact SlK.tFrom _ _ | exact SlK.tTo _ _ | exact SlK.lFrom _ _ | exact SlK.lTo _ _ | (refine SlK.sFrom _ _ ?_; walk_at "side") | (refine SlK.sTo _ _ ?_; walk_at "side") | (refine SlK.sMid _ _ _ ?_; walk_at "side") | exact SlK.tup _ _ _ | exact SlK.lst _ _ _ | (refine SlK.str ?_; walk_at "side"))
local macro_rules | `(tactic| walk_at "lit") => `(tactic| first | exact ev_strE (y := sL []) (by decide +kernel))
local macro_rules | `(tactic| walk_at "op") => `(tactic| (show OpI _ _ _ _ _ _ _; first | exact op_none | (refine' op_some ?_; (any_goals (walk_at "x")); done)))
local macro_rules | `(tactic| walk_at "blk") => `(tactic| exact blkOk_by (by kernel_rfl))
local macro_rules | `(tactic| walk_at "il") => `(tactic| first
  | (refine' il_tup ?_; (any_goals (walk_at "x")); done)
  | (refine' il_list ?_; (any_goals (walk_at "x")); done)
  | (refine' il_str ?_; (any_goals (walk_at "x")); done))
local macro_rules | `(tactic| walk_at "xs") => `(tactic| (show AV _ _ _ _ _ _ _; first | exact a_nil | (refine' a_cons ?_ ?_; (any_goals (walk_at "x")); (any_goals (walk_at "xs")); done)))
local macro_rules | `(tactic| walk_at "u") => `(tactic| (refine' x_call (by assumption) ?_ ?_ (by assumption); (any_goals (walk_at "xs")); (any_goals (walk_at "ck")); done))
local macro_rules | `(tactic| walk_at "x") => `(tactic| first
  | (show EV _ _ (Expr.Name _ _) _ _ _ _; walk_at "v")
  | (show EV _ _ (Expr.Constant _ _ _) _ _ _ _; first | exact ev_int | exact ev_bl | exact ev_non | walk_at "lit")
  | (show EV _ _ (Expr.BinOp _ Operator.Add _ _) _ _ _ _; refine' x_add ?_ ?_ ?_; (any_goals (walk_at "x")); (any_goals (walk_at "add")); done)
  | (show EV _ _ (Expr.BinOp _ Operator.Sub _ _) _ _ _ _; refine' x_sub ?_ ?_; (any_goals (walk_at "x")); done)
  | (show EV _ _ (Expr.BinOp _ Operator.Mult _ _) _ _ _ _; refine' x_mul ?_ ?_ ?_; (any_goals (walk_at "x")); (any_goals (walk_at "mul")); done)
  | (show EV _ _ (Expr.Call (Expr.Attribute _ "get" _) _ _ _) _ _ _ _; refine' x_get ?_ ?_ ?_ ?_ (by assumption); (any_goals (walk_at "x")); (any_goals (walk_at "get")); done)
  | (show EV _ _ (Expr.Call (Expr.Name "len" _) _ _ _) _ _ _ _; refine' x_len ?_ ?_ (by assumption); (any_goals (walk_at "x")); (any_goals (walk_at "len")); done)
  | (show EV _ _ (Expr.Call (Expr.Name _ _) _ _ _) _ _ _ _; walk_at "u")
  | (show EV _ _ (Expr.Subscript _ (Expr.Slice _ _ _ _) _) _ _ _ _; refine' x_sl ?_ ?_ ?_ ?_; (any_goals (walk_at "x")); (any_goals (walk_at "op")); (any_goals (walk_at "sl")); done)
  | (show EV _ _ (Expr.Subscript _ _ _) _ _ _ _; refine' x_ix ?_ ?_ ?_; (any_goals (walk_at "x")); (any_goals (walk_at "ix")); done)
  | (show EV _ _ (Expr.Tuple _ _ _) _ _ _ _; refine' x_tup ?_; (any_goals (walk_at "xs")); done)
  | (show EV _ _ (Expr.List _ _) _ _ _ _; refine' x_lst ?_; (any_goals (walk_at "xs")); done)
  | (show EV _ _ (Expr.Compare _ [CmpOp.Eq] _ _) _ _ _ _; refine' x_eq ?_ ?_ ?_ (by assumption); (any_goals (walk_at "x")); (any_goals (walk_at "eq")); done)
  | (show EV _ _ (Expr.Compare _ [CmpOp.NotEq] _ _) _ _ _ _; refine' x_ne ?_ ?_ ?_ (by assumption); (any_goals (walk_at "x")); (any_goals (walk_at "eq")); done)
  | (show EV _ _ (Expr.Compare _ [CmpOp.Lt] _ _) _ _ _ _; refine' x_lt ?_ ?_ ?_; (any_goals (walk_at "x")); (any_goals (walk_at "lt")); done)
  | (show EV _ _ (Expr.Compare _ [CmpOp.Gt] _ _) _ _ _ _; refine' x_gt ?_ ?_ ?_; (any_goals (walk_at "x")); (any_goals (walk_at "le")); done)
  | (show EV _ _ (Expr.Compare _ [CmpOp.LtE] _ _) _ _ _ _; refine' x_le ?_ ?_ ?_; (any_goals (walk_at "x")); (any_goals (walk_at "le")); done)
  | (show EV _ _ (Expr.UnaryOp _ _ _) _ _ _ _; refine' ev_not ?_; (any_goals (walk_at "x")); done))
local macro_rules | `(tactic| walk_at "t") => `(tactic| first
  | (show TV _ _ (Expr.Compare _ [CmpOp.Eq] _ _) _ _ _ _; refine' t_eq ?_ ?_ ?_ (by assumption); (any_goals (walk_at "x")); (any_goals (walk_at "eq")); done)
  | (show TV _ _ (Expr.Compare _ [CmpOp.NotEq] _ _) _ _ _ _; refine' t_ne ?_ ?_ ?_ (by assumption); (any_goals (walk_at "x")); (any_goals (walk_at "eq")); done)
  | (show TV _ _ (Expr.Compare _ [CmpOp.Lt] _ _) _ _ _ _; refine' t_lt ?_ ?_ ?_; (any_goals (walk_at "x")); (any_goals (walk_at "lt")); done)
  | (show TV _ _ (Expr.Compare _ [CmpOp.Gt] _ _) _ _ _ _; refine' t_gt ?_ ?_ ?_; (any_goals (walk_at "x")); (any_goals (walk_at "le")); done)
  | (show TV _ _ (Expr.Compare _ [CmpOp.LtE] _ _) _ _ _ _; refine' t_le ?_ ?_ ?_; (any_goals (walk_at "x")); (any_goals (walk_at "le")); done)
  | (show TV _ _ (Expr.Compare _ [CmpOp.Is] _ _) _ _ _ _; refine' t_isN ?_; (any_goals (walk_at "x")); done)
  | (show TV _ _ (Expr.Compare _ [CmpOp.IsNot] _ _) _ _ _ _; refine' t_notN ?_; (any_goals (walk_at "x")); done)
  | (show TV _ _ (Expr.UnaryOp UnaryOp.Not _ _) _ _ _ _; refine' tv_not ?_; (any_goals (walk_at "t")); done)
  | (show TV _ _ _ _ _ _ _; refine' tv_e ?_; (any_goals (walk_at "x")); done))
theorem eqs (s : List Nat) : EqK (dS s) (dS s) true := by
  have := EqK.str s s
  simpa using this
theorem filt_non {α : Type} (f : α → PyData) (l : List α) : (l.filter fun _ => false).map f = [] := by simp
theorem facts_at {n : Nat} (h : n ≤ 5) : atI [PyData.int (1 : Nat), PyData.int (1 : Nat), PyData.int (2 : Nat), PyData.int (6 : Nat), PyData.int (24 : Nat), PyData.int (120 : Nat)] ((n : Nat) : Int) = some (.int (fact n : Nat)) := by
  have : n = 0 ∨ n = 1 ∨ n = 2 ∨ n = 3 ∨ n = 4 ∨ n = 5 := by omega
  rcases this with rfl | rfl | rfl | rfl | rfl | rfl <;> rfl
section
variable {P : Program} {w : World} {K : PySem.W.Frag} {mg : Str → Option Value} {base : Heap}
structure Cs (P : Program) (w : World) (K : PySem.W.Frag) (mg : Str → Option Value) (base : Heap) : Prop where
  bags : Cal P w K mg base "_law_bags" 3 ["script", "limit"] (tBags K)
  pool : Cal P w K mg base "_law_pool" 2 ["bag"] tPool
  stack : Cal P w K mg base "_law_stack" 3 ["bag", "pool", "many", "most"] tStack
  text : Cal P w K mg base "_law_text" 2 ["bag", "pool", "most"] tText
  run : Cal P w K mg base "_law_run" 1 ["known", "text"] (PF FLRun)
  written : CalT P w K mg base "written" 6 ["stack", "text", "times"] (PF FWritten)
  table : Cal P w K mg base "table" 6 ["stack"] (PF FTable)
  same : Cal P w K mg base "same" 6 ["first", "second"] (PF FSame)
  tell : Cal P w K mg base "telling_sign" 6 ["first", "second"] (PF FTelling)
  idle : Cal P w K mg base "idle_layers" 6 ["stack"] (PF FIdle)
  cntO : Cal P w K mg base "count_orders" 6 ["stack"] (PF FCountO)
def tLaw (K : PySem.W.Frag) : DSp := fun ks B k _ => ∃ a ns, ks = [.val (.ref a)] ∧ ScB K a ns B ∧ k (.dat (.bool true)) []
abbrev tn6 : Lay := [(97, [98]), (98, [97])]
theorem tn6_ok : LOk tn6 := ⟨by simp, fun q hq => by
  simp only [List.mem_cons, List.not_mem_nil, or_false] at hq
  rcases hq with rfl | rfl <;> exact ⟨by decide +kernel, by decide, by decide, by decide +kernel⟩, by simp⟩
abbrev ab6 : Lay := [(97, [98])]
abbrev bc6 : Lay := [(98, [99])]
theorem ab6_ok : LOk ab6 := ⟨by simp, fun q hq => by rw [List.mem_singleton.mp hq]; exact ⟨by decide +kernel, by decide, by decide, by decide +kernel⟩, by simp⟩
theorem bc6_ok : LOk bc6 := ⟨by simp, fun q hq => by rw [List.mem_singleton.mp hq]; exact ⟨by decide +kernel, by decide, by decide, by decide +kernel⟩, by simp⟩
theorem sok_two {A B : Lay} (a : LOk A) (b : LOk B) : SOk [A, B] := fun L hL => by
  simp only [List.mem_cons, List.not_mem_nil, or_false] at hL
  rcases hL with rfl | rfl
  · exact a
  · exact b
theorem fd_law {f : Addr} {fd : FuncData} (F : FunD K "law" "law" (defArgs s_law) (defBody s_law) (defScope s_law) [] [] f fd) (b : Bn mg) (C : Cs P w K mg base) : FD P w K mg base 13 f fd ["script"] (tLaw K) := by
  refine fd_okD F sc_law (fun ks B k R ⟨a, ns, h, _⟩ => by rw [h]; rfl) ?_
  rintro cdv A outer s H E ks B q R hr ⟨a, ns, rfl, hB, h⟩
  have nd := sc_law.nd
  have cW := C.written
  refine sj_bags 1 (fun ss => ∃ k1 k2 k3 k4 k5 k6 k7 k8 k9 k10 k11 k12, ss = [.val (.ref a), k1, k2, k3, k4, k5, k6, k7, k8, k9, k10, k11, k12]) nd (ej_calP (B := B) (F := []) C.bags hr (by decide) (av_cons (ev_v 0) (av_cons ev_int av_nil)) (by rw [List.append_nil]) ⟨a, ns, 8, rfl, hB, by decide, fun pl bs hbs => ⟨pl, bs, rfl, List.append_nil _, hbs⟩⟩) ⟨_, _, _, _, _, _, _, _, _, _, _, _, rfl⟩ ?_ ?_
  · rintro ss1 p ds hg ⟨k1, k2, k3, k4, k5, k6, k7, k8, k9, k10, k11, k12, rfl⟩
    refine sj_setJ 2 (EJ.imp (ej_pool C.pool hr (by decide) (ev_v 1) hg) ?_) nd
    rintro k O ⟨po, rfl, hpo, rfl⟩
    refine sj_par 3 4 (aj_cons (ej_stack (many := 5) (most := 2) C.stack hr (by decide) hpo (av_cons (ev_v 1) (av_cons (ev_v 2) (av_cons ev_int (av_cons ev_int av_nil)))) hg (by decide) (by decide) (by decide)) ?_) rfl nd
    rintro k O ⟨S, i1, rfl, hS, lS, iS, rfl⟩
    refine aj_cons (ej_stack (many := 3) (most := 1) C.stack hr (by decide) hpo (av_cons (ev_v 1) (av_cons (ev_v 2) (av_cons ev_int (av_cons ev_int av_nil)))) hg (by decide) (by decide) (by decide)) ?_
    rintro k O ⟨T, i2, rfl, hT, lT, iT, rfl⟩
    refine av_nil.to ⟨_, _, rfl, ?_⟩
    refine sj_par 5 6 (aj_cons (ej_text (most := 60) C.text hr (by decide) hpo (av_cons (ev_v 1) (av_cons (ev_v 2) (av_cons ev_int av_nil))) hg (by decide)) ?_) rfl nd
    rintro k O ⟨t, i3, rfl, lt, it, ht, rfl⟩
    refine aj_cons (ej_text (most := 60) C.text hr (by decide) hpo (av_cons (ev_v 1) (av_cons (ev_v 2) (av_cons ev_int av_nil))) hg (by decide)) ?_
    rintro k O ⟨u, i4, rfl, lu, iu, hu, rfl⟩
    refine av_nil.to ⟨_, _, rfl, ?_⟩
    have gS : ∀ x : Tx, (wS S x).length ≤ 32 * x.length := fun x => wS_mst (by decide) iS lS x
    have gT : ∀ x : Tx, (wS T x).length ≤ 1 * x.length := fun x => wS_mst (n := 3) (by decide) iT (by omega) x
    have ltab := tab_len hS
    have htu : TOk (t ++ u) := fun c hc => (List.mem_append.mp hc).elim (ht c) (hu c)
    have ltu : (t ++ u).length = t.length + u.length := List.length_append
    have gst := gS t
    have gsu := gS u
    have gsx := gS (t ++ u)
    have gtt := gT t
    refine sj_set 7 (k := .dat (dK (tKv (tab S)))) (x_dictP (key := fun q : Nat × Tx => q.1) (val := fun q => dS q.2) (x_call C.table (a_cons (ev_v 3) a_nil) (.mk hS lS) hr) (.inl rfl) (tab_ndp S) b) ?_ nd
    have eW : ∀ {Ls : List Lay} {x : Tx}, rn Ls 1 x = wS Ls x := rfl
    refine sj_same (d := dS (wS S t)) (x_callT1 cW (a_cons (ev_v 3) (a_cons (ev_v 5) a_nil)) (.mk (n := 1) hS lS ht (by omega) (by decide) (by rw [eW]; omega)) hr) (ev_as (by rw [wL_tab]) (x_call C.run (a_cons (ev_v 7) (a_cons (ev_v 5) a_nil)) (.mk (T := tab S) (by omega) (by rw [wL_tab]; omega)) hr)) (eqs _) hr ?_
    refine sj_same (d := dS (wS S t ++ wS S u)) (ev_as (by rw [eW, wS_app]) (x_callT1 cW (a_cons (ev_v 3) (a_cons (x_add (ev_v 5) (ev_v 6) (.str (by omega))) a_nil)) (.mk (n := 1) hS lS htu (by omega) (by decide) (by rw [eW]; omega)) hr)) (x_add (x_callT1 cW (a_cons (ev_v 3) (a_cons (ev_v 5) a_nil)) (.mk (n := 1) hS lS ht (by omega) (by decide) (by rw [eW]; omega)) hr) (x_callT1 cW (a_cons (ev_v 3) (a_cons (ev_v 6) a_nil)) (.mk (n := 1) hS lS hu (by omega) (by decide) (by rw [eW]; omega)) hr) (.str (by rw [eW, eW]; omega))) (eqs _) hr ?_
    refine sj_set 8 (x_call C.tell (a_cons (ev_v 3) (a_cons (ev_v 4) a_nil)) (.mk hS lS hT (by omega)) hr) ?_ nd
    have eN : isNoD (telD (tel S T)) = decide (tab S = tab T) := by
      rw [telD_non]
      cases e : tel S T with
      | none => rw [decide_eq_true (tel_none.mp e)]; rfl
      | some c => rw [decide_eq_false fun z => by rw [tel_none.mpr z] at e; cases e]; rfl
    obtain ⟨c, hc⟩ : ∃ c, isNoD (telD (tel S T)) = false → telD (tel S T) = dS [c] ∧ wS S [c] ≠ wS T [c] ∧ TOk [c] := by
      cases e : tel S T with
      | none => exact ⟨0, fun y => by cases y⟩
      | some c =>
        refine ⟨c, fun _ => ⟨rfl, (tel_some e).1, fun x hx => ?_⟩⟩
        rw [List.mem_singleton.mp hx]
        exact (tel_some e).2.elim (sgs_sgn hS c) (sgs_sgn hT c)
    have sym : decide (tab T = tab S) = decide (tab S = tab T) := decide_eq_decide.mpr eq_comm
    refine sj_ifR (WV.tv (wv_or (t_ne (x_isNb (ev_v 8)) (x_call C.same (a_cons (ev_v 3) (a_cons (ev_v 4) a_nil)) (.mk hS lS hT (by omega)) hr) (.bool _ _) hr) (fun _ => wv_or1 (t_ne (x_call C.same (a_cons (ev_v 4) (a_cons (ev_v 3) a_nil)) (.mk hT (by omega) hS lS) hr) (x_call C.same (a_cons (ev_v 3) (a_cons (ev_v 4) a_nil)) (.mk hS lS hT (by omega)) hr) (.bool _ _) hr)) (fun _ => rfl))) (fun z => ?_) (fun _ => ?_)
    · rw [eN, sym] at z
      simp at z
    have g1 := gS [c]
    have g2 := gT [c]
    refine sj_ifR (WV.tv (wv_and (t_notNb (ev_v 8)) (fun y => wv_and1 (t_eq (x_callT1 cW (a_cons (ev_v 3) (a_cons (ev_as (hc (by simpa using y)).1 (ev_v 8)) a_nil)) (.mk (n := 1) hS lS (hc (by simpa using y)).2.2 (by simp) (by decide) (by rw [eW]; simp at g1; omega)) hr) (x_callT1 cW (a_cons (ev_v 4) (a_cons (ev_as (hc (by simpa using y)).1 (ev_v 8)) a_nil)) (.mk (n := 1) hT (by omega) (hc (by simpa using y)).2.2 (by simp) (by decide) (by rw [eW]; simp at g2; omega)) hr) (.str _ _) hr)) (fun _ => rfl))) (fun z => ?_) (fun _ => ?_)
    · obtain ⟨z1, z2⟩ := Bool.and_eq_true_iff.mp z
      exact absurd (of_decide_eq_true z2) (hc (by simpa using z1)).2.1
    refine sj_ifR (WV.tv (wv_and (t_isNb (ev_v 8)) (fun y => wv_and1 (t_ne (x_callT1 cW (a_cons (ev_v 3) (a_cons (ev_v 5) a_nil)) (.mk (n := 1) hS lS ht (by omega) (by decide) (by rw [eW]; omega)) hr) (x_callT1 cW (a_cons (ev_v 4) (a_cons (ev_v 5) a_nil)) (.mk (n := 1) hT (by omega) ht (by omega) (by decide) (by rw [eW]; omega)) hr) (.str _ _) hr)) (fun _ => rfl))) (fun z => ?_) (fun _ => ?_)
    · obtain ⟨z1, z2⟩ := Bool.and_eq_true_iff.mp z
      rw [eN] at z1
      have e : rn S 1 t = rn T 1 t := tab_eq.mp (of_decide_eq_true z1) t
      rw [decide_eq_true e] at z2
      cases z2
    have lf := List.length_filter_le (fun z => (lk (tab S) z).isSome) t
    have fs : ∀ x ∈ t.filter (fun z => (lk (tab S) z).isSome), x ∈ SGN := fun x hx => ht x (List.mem_filter.mp hx).1
    refine sj_set 9 (k := .dat (.bool (t.filter fun z => (lk (tab S) z).isSome).isEmpty)) (x_eq (x_lc (lj_filtL 11 (xs := t) (inj := fun c => .dat (dS [c])) (f := fun c => dS [c]) (t := fun c => (lk (tab S) c).isSome) (il_str (ev_v 5)) (by omega) (by walk_at "blk") nd
      (fun z hz s H C' cl fp => tv_as ?_ (t_inF (ev_v 11) (ev_v 7) hr)) (fun z hz _ s H C' cl fp => ev_v 11)) nd) (x_lst (ds := []) a_nil) (.gen (pl_sgs (by omega) fs) rfl ((eqv_lnil _).trans (by cases (t.filter fun z => (lk (tab S) z).isSome) <;> rfl))) hr) ?_ nd
    · rw [getT_tKv]
      cases lk (tab S) z <;> rfl
    have hst : decide (wS S t = t) = (t.filter fun z => (lk (tab S) z).isSome).isEmpty := by
      rw [Bool.eq_iff_iff, decide_eq_true_iff, wS_stays hS, List.isEmpty_iff, List.filter_eq_nil_iff]
      constructor
      · intro g c hc
        rw [lk_tab, g c hc]; simp
      · intro g c hc
        have := g c hc
        rw [lk_tab] at this
        simpa using this
    refine sj_ifR (t_ne (x_eq (x_callT1 cW (a_cons (ev_v 3) (a_cons (ev_v 5) a_nil)) (.mk (n := 1) hS lS ht (by omega) (by decide) (by rw [eW]; omega)) hr) (ev_v 5) (.str _ _) hr) (ev_v 9) (.bool _ _) hr) (fun z => ?_) (fun _ => ?_)
    · rw [eW, hst] at z
      simp at z
    refine sj_ifR (t_ne (d1 := .list []) (ev_as (by rw [filt_non]) (x_lc (lj_filtL 12 (xs := tab S) (inj := fun (q : Nat × Tx) => .two (dS [q.1]) (dS q.2)) (f := fun _ => .none) (t := fun _ => false) (il_itemsMN (α := Nat × Tx) (xs := tab S) (g := fun (q : Nat × Tx) => (sL [q.1], dS q.2)) (ev_v 7)) (by omega) (by walk_at "blk") nd
      (fun q hq s H C' cl fp => tv_as ?_ (t_eq (ev_ix2 (ev_v 12) ev_int rfl) (ev_ix2 (ev_v 12) ev_int rfl) (.str _ _) hr)) (fun m hm z s H C' cl fp => by cases z)) nd)) (x_lst (ds := []) a_nil) (eqk_self rfl) hr) (fun z => by simp at z) (fun _ => ?_)
    · have := (List.mem_filter.mp hq).2
      have ne : ¬ [q.1] = q.2 := fun e => by rw [← e] at this; simp at this
      exact decide_eq_false ne
    refine sj_forL 10 (xs := idl S) (inj := fun (i : Nat) => .dat (.int (i : Nat))) (fun pre ss O => ∃ k9 k10, ss = [.val (.ref a), .val (.ref p), .dat (dS po), .dat (stkD S), .dat (stkD T), .dat (dS t), .dat (dS u), .dat (dK (tKv (tab S))), .dat (telD (tel S T)), k9, k10, k11, k12] ∧ O = [(p, BagO ds i4)]) nd
      (il_list (x_call C.idle (a_cons (ev_v 3) a_nil) (.mk hS lS) hr)) ⟨_, _, rfl, rfl⟩ ?_ ?_
    · rintro pre n post e ss1 O1 ⟨k9, k10, rfl, rfl⟩
      have hn : n ∈ idl S := by rw [e]; simp
      have ne : tab (outL S n) = tab S := of_decide_eq_true (List.mem_filter.mp hn).2
      have go := outL_ok hS n
      have ew : wS (outL S n) t = wS S t := tab_eq.mp ne t
      refine sj_same (d := dS (wS S t)) (ev_as (by rw [eW, ew]) (x_callT1 cW (a_cons (x_outL (ev_v 3) (ev_v 3) (ev_v 10) (x_add (ev_v 10) ev_int (.nat1 _)) (by omega)) (a_cons (ev_v 5) a_nil)) (.mk (n := 1) go.1 (by omega) ht (by omega) (by decide) (by rw [eW, ew]; omega)) hr)) (x_callT1 cW (a_cons (ev_v 3) (a_cons (ev_v 5) a_nil)) (.mk (n := 1) hS lS ht (by omega) (by decide) (by rw [eW]; omega)) hr) (eqs _) hr (sj_nil ⟨_, _, rfl, rfl⟩)
    rintro ss1 O1 ⟨k9, k10, rfl, rfl⟩
    have cl := cntO_le S
    have cp := cntO_pos S
    have f5 := fact_le lS
    refine sj_ifR (tv_not (tv_chainI ev_int (x_call C.cntO (a_cons (ev_v 3) a_nil) (.mk hS lS (by omega)) hr) (x_ix (x_lst (ds := [.int (1 : Nat), .int (1 : Nat), .int (2 : Nat), .int (6 : Nat), .int (24 : Nat), .int (120 : Nat)]) (a_cons ev_int (a_cons ev_int (a_cons ev_int (a_cons ev_int (a_cons ev_int (a_cons ev_int a_nil))))))) (x_len (ev_v 3) (.tupM _) b) (.lst (facts_at lS))))) (fun z => ?_) (fun _ => ?_)
    · have z1 : ((1 : Int) ≤ ((cntO S : Nat) : Int)) := by omega
      have z2 : (((cntO S : Nat) : Int) ≤ ((fact S.length : Nat) : Int)) := by omega
      simp [z1, z2] at z
    refine sj_ifR (WV.tv (wv_or (tv_isnB (x_call C.same (a_cons (ev_as (d1 := .tuple (S.map layD ++ (S.map layD).take 0)) (by rw [List.take_zero, List.append_nil]; rfl) (x_add (ev_v 3) (x_sl (ev_v 3) op_none (op_some ev_int) (.tTo _ 0)) (.tup (by simp; omega)))) (a_cons (ev_v 3) a_nil)) (.mk hS lS hS lS) hr) ev_bl) (fun _ => wv_or1 (t_ne (x_call C.table (a_cons (x_tup (ds := []) a_nil) a_nil) (.mk (Ls := []) sok_nil (by simp)) hr) (x_tup (ds := []) a_nil) (t := true) (eqk_self rfl) hr)) (fun _ => rfl))) (fun z => by simp at z) (fun _ => ?_)
    refine sj_ifR (tv_isnB (x_call C.same (a_cons (x_tup (ds := [layD [], layD []]) (a_cons (x_tup (ds := []) a_nil) (a_cons (x_tup (ds := []) a_nil) a_nil))) (a_cons (x_tup (ds := []) a_nil) a_nil)) (.mk (Ls := [[], []]) (Ms := []) (sok_two lok_nil lok_nil) (by simp) sok_nil (by simp)) hr) ev_bl) (fun z => ?_) (fun _ => sj_nil ⟨_, _, _, _, _, _, _, _, _, _, _, _, rfl⟩)
    have e0 : decide (tab [[], []] = tab []) = true := by decide +kernel
    rw [e0] at z
    simp at z
  · rintro ss1 ⟨k1, k2, k3, k4, k5, k6, k7, k8, k9, k10, k11, k12, rfl⟩
    refine sj_ifR (tv_isnB (x_call C.same (a_cons (ev_tmul (ds := [layD tn6]) (n := 2) (x_tup (ds := [layD tn6]) (a_cons (x_tup (ds := [pairD (97, [98]), pairD (98, [97])]) (a_cons (x_tup (ds := [dS [97], dS [98]]) (a_cons (ev_strE (y := sL [97]) (by decide +kernel)) (a_cons (ev_strE (y := sL [98]) (by decide +kernel)) a_nil))) (a_cons (x_tup (ds := [dS [98], dS [97]]) (a_cons (ev_strE (y := sL [98]) (by decide +kernel)) (a_cons (ev_strE (y := sL [97]) (by decide +kernel)) a_nil))) a_nil))) a_nil)) ev_int (by simp) (by decide) (by decide) (by simp)) (a_cons (x_tup (ds := []) a_nil) a_nil)) (.mk (Ls := [tn6, tn6]) (Ms := []) (sok_two tn6_ok tn6_ok) (by simp) sok_nil (by simp)) hr) ev_bl) (fun z => ?_) (fun _ => ?_)
    · have e0 : decide (tab [tn6, tn6] = tab []) = true := by decide +kernel
      rw [e0] at z
      simp at z
    have e1 : tab [ab6, bc6] = [(97, [99]), (98, [99])] := by decide +kernel
    refine sj_ret (k := .dat (.bool true)) (x_eq (d1 := layD [(97, [99]), (98, [99])]) (ev_as (by rw [e1]) (x_call C.table (a_cons (x_tup (ds := [layD ab6, layD bc6]) (a_cons (x_tup (ds := [pairD (97, [98])]) (a_cons (x_tup (ds := [dS [97], dS [98]]) (a_cons (ev_strE (y := sL [97]) (by decide +kernel)) (a_cons (ev_strE (y := sL [98]) (by decide +kernel)) a_nil))) a_nil)) (a_cons (x_tup (ds := [pairD (98, [99])]) (a_cons (x_tup (ds := [dS [98], dS [99]]) (a_cons (ev_strE (y := sL [98]) (by decide +kernel)) (a_cons (ev_strE (y := sL [99]) (by decide +kernel)) a_nil))) a_nil)) a_nil))) a_nil) (.mk (Ls := [ab6, bc6]) (sok_two ab6_ok bc6_ok) (by simp)) hr))
      (x_tup (ds := [pairD (97, [99]), pairD (98, [99])]) (a_cons (x_tup (ds := [dS [97], dS [99]]) (a_cons (ev_strE (y := sL [97]) (by decide +kernel)) (a_cons (ev_strE (y := sL [99]) (by decide +kernel)) a_nil))) (a_cons (x_tup (ds := [dS [98], dS [99]]) (a_cons (ev_strE (y := sL [98]) (by decide +kernel)) (a_cons (ev_strE (y := sL [99]) (by decide +kernel)) a_nil))) a_nil))) (eqk_self (by rw [← e1]; exact pl_tab (sok_two ab6_ok bc6_ok) (by simp))) hr) (fin0 h)
end
end Fc
end
set_option maxHeartbeats 0
namespace K6
open PySem PySem.Spec PyProof.Rows L2 Dl
def fn : List He.DefD := [⟨(PySem.Str.ofString "_law_cell_at", none), PySem.Str.ofString "_law_cell_at", PySem.Str.ofString "_law_cell_at", defArgs (Fc.topS 36), defBody (Fc.topS 36), defScope (Fc.topS 36), [], []⟩, ⟨(PySem.Str.ofString "_law_draws", none), PySem.Str.ofString "_law_draws", PySem.Str.ofString "_law_draws", defArgs (Fc.topS 37), defBody (Fc.topS 37), defScope (Fc.topS 37), [], []⟩, ⟨(PySem.Str.ofString "_law_bag", none), PySem.Str.ofString "_law_bag", PySem.Str.ofString "_law_bag", defArgs (Fc.topS 38), defBody (Fc.topS 38), defScope (Fc.topS 38), [], []⟩, ⟨(PySem.Str.ofString "_law_bags", none), PySem.Str.ofString "_law_bags", PySem.Str.ofString "_law_bags", defArgs (Fc.topS 39), defBody (Fc.topS 39), defScope (Fc.topS 39), [], []⟩, ⟨(PySem.Str.ofString "_law_take", none), PySem.Str.ofString "_law_take", PySem.Str.ofString "_law_take", defArgs (Fc.topS 40), defBody (Fc.topS 40), defScope (Fc.topS 40), [], []⟩, ⟨(PySem.Str.ofString "_law_pool", none), PySem.Str.ofString "_law_pool", PySem.Str.ofString "_law_pool", defArgs (Fc.topS 41), defBody (Fc.topS 41), defScope (Fc.topS 41), [], []⟩, ⟨(PySem.Str.ofString "_law_layer", none), PySem.Str.ofString "_law_layer", PySem.Str.ofString "_law_layer", defArgs (Fc.topS 42), defBody (Fc.topS 42), defScope (Fc.topS 42), [], []⟩, ⟨(PySem.Str.ofString "_law_stack", none), PySem.Str.ofString "_law_stack", PySem.Str.ofString "_law_stack", defArgs (Fc.topS 43), defBody (Fc.topS 43), defScope (Fc.topS 43), [], []⟩, ⟨(PySem.Str.ofString "_law_text", none), PySem.Str.ofString "_law_text", PySem.Str.ofString "_law_text", defArgs (Fc.topS 44), defBody (Fc.topS 44), defScope (Fc.topS 44), [], []⟩, ⟨(PySem.Str.ofString "_law_run", none), PySem.Str.ofString "_law_run", PySem.Str.ofString "_law_run", defArgs (Fc.topS 45), defBody (Fc.topS 45), defScope (Fc.topS 45), [], []⟩, ⟨(PySem.Str.ofString "of_signs", none), PySem.Str.ofString "of_signs", PySem.Str.ofString "of_signs", defArgs (Fc.topS 13), defBody (Fc.topS 13), defScope (Fc.topS 13), [], []⟩, ⟨(PySem.Str.ofString "is_pair", none), PySem.Str.ofString "is_pair", PySem.Str.ofString "is_pair", defArgs (Fc.topS 14), defBody (Fc.topS 14), defScope (Fc.topS 14), [], []⟩, ⟨(PySem.Str.ofString "is_layer", none), PySem.Str.ofString "is_layer", PySem.Str.ofString "is_layer", defArgs (Fc.topS 15), defBody (Fc.topS 15), defScope (Fc.topS 15), [], []⟩, ⟨(PySem.Str.ofString "is_stack", none), PySem.Str.ofString "is_stack", PySem.Str.ofString "is_stack", defArgs (Fc.topS 16), defBody (Fc.topS 16), defScope (Fc.topS 16), [], []⟩, ⟨(PySem.Str.ofString "need_stack", none), PySem.Str.ofString "need_stack", PySem.Str.ofString "need_stack", defArgs (Fc.topS 17), defBody (Fc.topS 17), defScope (Fc.topS 17), [], []⟩, ⟨(PySem.Str.ofString "need_text", none), PySem.Str.ofString "need_text", PySem.Str.ofString "need_text", defArgs (Fc.topS 18), defBody (Fc.topS 18), defScope (Fc.topS 18), [], []⟩, ⟨(PySem.Str.ofString "is_integer", none), PySem.Str.ofString "is_integer", PySem.Str.ofString "is_integer", defArgs (Fc.topS 12), defBody (Fc.topS 12), defScope (Fc.topS 12), [], []⟩, ⟨(PySem.Str.ofString "need_times", none), PySem.Str.ofString "need_times", PySem.Str.ofString "need_times", defArgs (Fc.topS 19), defBody (Fc.topS 19), defScope (Fc.topS 19), [He.Dv.int 1000], []⟩, ⟨(PySem.Str.ofString "by_layer", none), PySem.Str.ofString "by_layer", PySem.Str.ofString "by_layer", defArgs (Fc.topS 20), defBody (Fc.topS 20), defScope (Fc.topS 20), [], []⟩, ⟨(PySem.Str.ofString "by_stack", none), PySem.Str.ofString "by_stack", PySem.Str.ofString "by_stack", defArgs (Fc.topS 21), defBody (Fc.topS 21), defScope (Fc.topS 21), [], []⟩, ⟨(PySem.Str.ofString "results", none), PySem.Str.ofString "results", PySem.Str.ofString "results", defArgs (Fc.topS 22), defBody (Fc.topS 22), defScope (Fc.topS 22), [], []⟩, ⟨(PySem.Str.ofString "counted", none), PySem.Str.ofString "counted", PySem.Str.ofString "counted", defArgs (Fc.topS 23), defBody (Fc.topS 23), defScope (Fc.topS 23), [], []⟩, ⟨(PySem.Str.ofString "run_counts", none), PySem.Str.ofString "run_counts", PySem.Str.ofString "run_counts", defArgs (Fc.topS 24), defBody (Fc.topS 24), defScope (Fc.topS 24), [], []⟩, ⟨(PySem.Str.ofString "length_by_runs", none), PySem.Str.ofString "length_by_runs", PySem.Str.ofString "length_by_runs", defArgs (Fc.topS 25), defBody (Fc.topS 25), defScope (Fc.topS 25), [], []⟩, ⟨(PySem.Str.ofString "written", none), PySem.Str.ofString "written", PySem.Str.ofString "written", defArgs (Fc.topS 26), defBody (Fc.topS 26), defScope (Fc.topS 26), [], [(PySem.Str.ofString "times", He.Dv.int 1)]⟩, ⟨(PySem.Str.ofString "table_of", none), PySem.Str.ofString "table_of", PySem.Str.ofString "table_of", defArgs (Fc.topS 28), defBody (Fc.topS 28), defScope (Fc.topS 28), [], []⟩, ⟨(PySem.Str.ofString "table", none), PySem.Str.ofString "table", PySem.Str.ofString "table", defArgs (Fc.topS 29), defBody (Fc.topS 29), defScope (Fc.topS 29), [], []⟩, ⟨(PySem.Str.ofString "same", none), PySem.Str.ofString "same", PySem.Str.ofString "same", defArgs (Fc.topS 30), defBody (Fc.topS 30), defScope (Fc.topS 30), [], []⟩, ⟨(PySem.Str.ofString "telling_sign", none), PySem.Str.ofString "telling_sign", PySem.Str.ofString "telling_sign", defArgs (Fc.topS 31), defBody (Fc.topS 31), defScope (Fc.topS 31), [], []⟩, ⟨(PySem.Str.ofString "idle_layers", none), PySem.Str.ofString "idle_layers", PySem.Str.ofString "idle_layers", defArgs (Fc.topS 32), defBody (Fc.topS 32), defScope (Fc.topS 32), [], []⟩, ⟨(PySem.Str.ofString "orders", none), PySem.Str.ofString "orders", PySem.Str.ofString "orders", defArgs (Fc.topS 33), defBody (Fc.topS 33), defScope (Fc.topS 33), [], []⟩, ⟨(PySem.Str.ofString "count_orders", none), PySem.Str.ofString "count_orders", PySem.Str.ofString "count_orders", defArgs (Fc.topS 34), defBody (Fc.topS 34), defScope (Fc.topS 34), [], []⟩, ⟨(PySem.Str.ofString "law", none), PySem.Str.ofString "law", PySem.Str.ofString "law", defArgs (Fc.topS 46), defBody (Fc.topS 46), defScope (Fc.topS 46), [], []⟩]
def fa : List He.Fa := [.int "MAX_RESULT" 10000, .int "MAX_LAYERS" 5, .str "SIGNS" (Dl.sL Fc.SGN), .int "MAX_TEXT" 200, .glo "_law_cell_at", .glo "_law_draws", .glo "_law_bag", .glo "_law_bags", .glo "_law_take", .glo "_law_pool", .glo "_law_layer", .glo "_law_stack", .glo "_law_text", .glo "_law_run", .glo "of_signs", .glo "is_pair", .glo "is_layer", .glo "is_stack", .glo "need_stack", .glo "need_text", .glo "is_integer", .glo "need_times", .glo "by_layer", .glo "by_stack", .glo "results", .glo "counted", .glo "run_counts", .glo "length_by_runs", .glo "written", .glo "table_of", .glo "table", .glo "same", .glo "telling_sign", .glo "idle_layers", .glo "orders", .glo "count_orders", .glo "law", .free "len", .free "range", .free "isinstance", .free "all", .free "str", .free "tuple", .free "list", .free "int", .free "bool", .free "repr", .free "sorted", .free "set", .free "min", .free "max", .free "sum", .free "zip", .free "dict"]
def names : List PySem.Str := ([PySem.Str.ofString "LayerError", PySem.Str.ofString "InvalidStack", PySem.Str.ofString "InvalidText", PySem.Str.ofString "InvalidNumber", PySem.Str.ofString "TooLong", PySem.Str.ofString "SIGNS", PySem.Str.ofString "MAX_TEXT", PySem.Str.ofString "MAX_RESULT", PySem.Str.ofString "MAX_LAYERS", PySem.Str.ofString "MAX_TIMES", PySem.Str.ofString "is_integer", PySem.Str.ofString "of_signs", PySem.Str.ofString "is_pair", PySem.Str.ofString "is_layer", PySem.Str.ofString "is_stack", PySem.Str.ofString "need_stack", PySem.Str.ofString "need_text", PySem.Str.ofString "need_times", PySem.Str.ofString "by_layer", PySem.Str.ofString "by_stack", PySem.Str.ofString "results", PySem.Str.ofString "counted", PySem.Str.ofString "run_counts", PySem.Str.ofString "length_by_runs", PySem.Str.ofString "written", PySem.Str.ofString "table_of", PySem.Str.ofString "table", PySem.Str.ofString "same", PySem.Str.ofString "telling_sign", PySem.Str.ofString "idle_layers"] : List PySem.Str) ++ ([PySem.Str.ofString "orders", PySem.Str.ofString "count_orders", PySem.Str.ofString "_law_cell_at", PySem.Str.ofString "_law_draws", PySem.Str.ofString "_law_bag", PySem.Str.ofString "_law_bags", PySem.Str.ofString "_law_take", PySem.Str.ofString "_law_pool", PySem.Str.ofString "_law_layer", PySem.Str.ofString "_law_stack", PySem.Str.ofString "_law_text", PySem.Str.ofString "_law_run"] : List PySem.Str)
abbrev R : PySem.W.OpenRow := PySem.W.OpenLaw.row PySem.Challenge.rw_signlayers_k06_whole_stacks_on_all_texts
abbrev hk : PySem.W.Hook := He.hookD 4 fa fn
def ob (s : PySem.W.SharedT) : He.AlD := He.obsDG 4 fa fn (HandSHeadRun.getT s)
theorem ob_eq (s : PySem.W.SharedT) : ob s = hk.obs s.abs := He.obsDG_eq (HandSHeadRun.getT_eq s)
theorem run (w : World) : HandSHeadRun.RunEq R (PySem.W.view R.prog [46]) hk ob 20000 names w := by
  intro os
  kernel_rfl
/-- the head's end, what a def may let out told by the world -/
theorem walk_w {l : PySem.W.OpenLaw} {n k : Nat} {q : Program} {loose : List Str} {XP : (Str → Option Value) → Heap → Prop} {YP : World → Heap → Prop} {d : DefRec} {CX : World → CXT} {x : Str}
    (hn : l.most = some n) (hn2 : n ≤ sizeLine) (hdf : d.params.defaults = []) (hr : Room k callerA)
    (F : ∀ (w : World) (mg : Str → Option Value) (fa : Addr) (h : Heap), YP w h → h.Ns mainGlobals mg → mg d.name = some (.ref fa) →
      ∃ (K : PySem.W.Frag) (fd : FuncData) (sp : Sp), K.In h ∧ (∀ (s : Shared) (u : Value), BindsTo s fd ⟨[u], []⟩ [(x, u)]) ∧
        (∀ (H : Hp) (a : Addr) (ns : List Int), ns.length ≤ n → Only H → SqL K H a (ns.map V.int) → sp [.ref a] H (fun v _ => v = .bl true) fun _ _ _ => False) ∧
        ∀ base : Heap, K.In base → base.Ns mainGlobals mg → FnOk l.prog w K mg base (CX w) k fa fd [x] sp)
    (hCX : ∀ (w : World) (H : Hp) (s : Shared) (e : Value) (s' : Shared), CX w [] H s (fun _ _ _ => False) e s' → False) :
    PySem.W.WalkO q loose XP YP l.row.toRowW d [] (fun f vs => PySem.call f vs) := by
  refine Att.attach_call hn hdf fun w s₀ s₁ mg mb fa o pm cd doc a vs ns G Y ho hd hcd hmg hobj hints hlen hg => ?_
  obtain ⟨K, fd, sp, KX, hb, hsp, hF⟩ := F w mg fa _ Y G.T.g hmg
  exact law_call KX G.T.g G.T.b G.T.builtins G.T.nolimit hg hobj hints (Nat.le_trans hlen hn2) hr hF hb (fun H hO hS => hsp H a ns hlen hO hS) fun H e s' => hCX w H s₁ e s'
theorem law_sp {K : PySem.W.Frag} {H : Hp} {a : Addr} {ns : List Int} (hO : Only H) (hS : SqL K H a (ns.map V.int)) : toSp (Fc.tLaw K) [.ref a] H (fun v _ => v = .bl true) fun _ _ _ => False := by
  have fin : ∀ (B : Store), ScB K a ns B → (B.map (·.1)).Nodup → (∀ q ∈ B, ObAt (fun _ => none) H q.1 q.2) → toSp (Fc.tLaw K) [.ref a] H (fun v _ => v = .bl true) fun _ _ _ => False := by
    intro B hB hn hb
    refine ⟨((fun _ => none) : Hp), [.val (.ref a)], B, (fun (r : Kd) (_ : Store) => r = .dat (.bool true)), (fun (_ : Addr) => False), .cons rfl .nil, ?_, hn, ?_, ⟨a, ns, rfl, hB, rfl⟩, ?_, ?_⟩
    · intro x o e
      cases e
    · exact fun q hq => ⟨hb q hq, rfl⟩
    · intro G' H' v r B' _ hv hr
      subst hr
      cases hv
      rfl
    · exact fun _ h => False.elim h
  rcases hS with h | h
  · rcases h with h | ⟨o, h⟩
    · rcases hO a with z | ⟨o, xs, z⟩
      · rw [z] at h; cases h
      · rw [z] at h; cases h
    · exact fin [(a, Scr o ns)] (.inl ⟨o, rfl⟩) (by simp) fun q hq => by
        rw [List.mem_singleton.mp hq]
        exact h
  · exact fin [] (.inr ⟨rfl, h⟩) List.nodup_nil fun q hq => (nomatch hq)
section
variable {P : Program} {w : World} {K : PySem.W.Frag} {h : Heap} {mg : Str → Option Value}
theorem bn_of (X : K.In h) (G : h.Ns mainGlobals mg) (c : He.SaysD fa fn K) : Bn mg :=
  ⟨He.free_ok X G (c.fact 37 (f := .free "len") rfl), He.free_ok X G (c.fact 38 (f := .free "range") rfl), He.free_ok X G (c.fact 39 (f := .free "isinstance") rfl), He.free_ok X G (c.fact 40 (f := .free "all") rfl), He.free_ok X G (c.fact 41 (f := .free "str") rfl), He.free_ok X G (c.fact 42 (f := .free "tuple") rfl), He.free_ok X G (c.fact 43 (f := .free "list") rfl), He.free_ok X G (c.fact 44 (f := .free "int") rfl), He.free_ok X G (c.fact 45 (f := .free "bool") rfl), He.free_ok X G (c.fact 46 (f := .free "repr") rfl), He.free_ok X G (c.fact 47 (f := .free "sorted") rfl), He.free_ok X G (c.fact 48 (f := .free "set") rfl), He.free_ok X G (c.fact 49 (f := .free "min") rfl), He.free_ok X G (c.fact 50 (f := .free "max") rfl), He.free_ok X G (c.fact 51 (f := .free "sum") rfl), He.free_ok X G (c.fact 52 (f := .free "zip") rfl), He.free_ok X G (c.fact 53 (f := .free "dict") rfl)⟩
theorem d_cell (X : K.In h) (G : h.Ns mainGlobals mg) (c : He.SaysD fa fn K) : Dfn K mg "_law_cell_at" (Fc.topS 36) := by
  obtain ⟨fd, F⟩ := c.def_ 0 (d := ⟨(PySem.Str.ofString "_law_cell_at", none), PySem.Str.ofString "_law_cell_at", PySem.Str.ofString "_law_cell_at", defArgs (Fc.topS 36), defBody (Fc.topS 36), defScope (Fc.topS 36), [], []⟩) rfl
  exact ⟨_, fd, F, He.glo_ok X G (c.fact 4 (f := .glo "_law_cell_at") rfl)⟩
theorem d_draws (X : K.In h) (G : h.Ns mainGlobals mg) (c : He.SaysD fa fn K) : Dfn K mg "_law_draws" (Fc.topS 37) := by
  obtain ⟨fd, F⟩ := c.def_ 1 (d := ⟨(PySem.Str.ofString "_law_draws", none), PySem.Str.ofString "_law_draws", PySem.Str.ofString "_law_draws", defArgs (Fc.topS 37), defBody (Fc.topS 37), defScope (Fc.topS 37), [], []⟩) rfl
  exact ⟨_, fd, F, He.glo_ok X G (c.fact 5 (f := .glo "_law_draws") rfl)⟩
theorem d_bag (X : K.In h) (G : h.Ns mainGlobals mg) (c : He.SaysD fa fn K) : Dfn K mg "_law_bag" (Fc.topS 38) := by
  obtain ⟨fd, F⟩ := c.def_ 2 (d := ⟨(PySem.Str.ofString "_law_bag", none), PySem.Str.ofString "_law_bag", PySem.Str.ofString "_law_bag", defArgs (Fc.topS 38), defBody (Fc.topS 38), defScope (Fc.topS 38), [], []⟩) rfl
  exact ⟨_, fd, F, He.glo_ok X G (c.fact 6 (f := .glo "_law_bag") rfl)⟩
theorem d_bags (X : K.In h) (G : h.Ns mainGlobals mg) (c : He.SaysD fa fn K) : Dfn K mg "_law_bags" (Fc.topS 39) := by
  obtain ⟨fd, F⟩ := c.def_ 3 (d := ⟨(PySem.Str.ofString "_law_bags", none), PySem.Str.ofString "_law_bags", PySem.Str.ofString "_law_bags", defArgs (Fc.topS 39), defBody (Fc.topS 39), defScope (Fc.topS 39), [], []⟩) rfl
  exact ⟨_, fd, F, He.glo_ok X G (c.fact 7 (f := .glo "_law_bags") rfl)⟩
theorem d_take (X : K.In h) (G : h.Ns mainGlobals mg) (c : He.SaysD fa fn K) : Dfn K mg "_law_take" (Fc.topS 40) := by
  obtain ⟨fd, F⟩ := c.def_ 4 (d := ⟨(PySem.Str.ofString "_law_take", none), PySem.Str.ofString "_law_take", PySem.Str.ofString "_law_take", defArgs (Fc.topS 40), defBody (Fc.topS 40), defScope (Fc.topS 40), [], []⟩) rfl
  exact ⟨_, fd, F, He.glo_ok X G (c.fact 8 (f := .glo "_law_take") rfl)⟩
theorem d_pool (X : K.In h) (G : h.Ns mainGlobals mg) (c : He.SaysD fa fn K) : Dfn K mg "_law_pool" (Fc.topS 41) := by
  obtain ⟨fd, F⟩ := c.def_ 5 (d := ⟨(PySem.Str.ofString "_law_pool", none), PySem.Str.ofString "_law_pool", PySem.Str.ofString "_law_pool", defArgs (Fc.topS 41), defBody (Fc.topS 41), defScope (Fc.topS 41), [], []⟩) rfl
  exact ⟨_, fd, F, He.glo_ok X G (c.fact 9 (f := .glo "_law_pool") rfl)⟩
theorem d_layer (X : K.In h) (G : h.Ns mainGlobals mg) (c : He.SaysD fa fn K) : Dfn K mg "_law_layer" (Fc.topS 42) := by
  obtain ⟨fd, F⟩ := c.def_ 6 (d := ⟨(PySem.Str.ofString "_law_layer", none), PySem.Str.ofString "_law_layer", PySem.Str.ofString "_law_layer", defArgs (Fc.topS 42), defBody (Fc.topS 42), defScope (Fc.topS 42), [], []⟩) rfl
  exact ⟨_, fd, F, He.glo_ok X G (c.fact 10 (f := .glo "_law_layer") rfl)⟩
theorem d_stack (X : K.In h) (G : h.Ns mainGlobals mg) (c : He.SaysD fa fn K) : Dfn K mg "_law_stack" (Fc.topS 43) := by
  obtain ⟨fd, F⟩ := c.def_ 7 (d := ⟨(PySem.Str.ofString "_law_stack", none), PySem.Str.ofString "_law_stack", PySem.Str.ofString "_law_stack", defArgs (Fc.topS 43), defBody (Fc.topS 43), defScope (Fc.topS 43), [], []⟩) rfl
  exact ⟨_, fd, F, He.glo_ok X G (c.fact 11 (f := .glo "_law_stack") rfl)⟩
theorem d_text (X : K.In h) (G : h.Ns mainGlobals mg) (c : He.SaysD fa fn K) : Dfn K mg "_law_text" (Fc.topS 44) := by
  obtain ⟨fd, F⟩ := c.def_ 8 (d := ⟨(PySem.Str.ofString "_law_text", none), PySem.Str.ofString "_law_text", PySem.Str.ofString "_law_text", defArgs (Fc.topS 44), defBody (Fc.topS 44), defScope (Fc.topS 44), [], []⟩) rfl
  exact ⟨_, fd, F, He.glo_ok X G (c.fact 12 (f := .glo "_law_text") rfl)⟩
theorem d_law_run (X : K.In h) (G : h.Ns mainGlobals mg) (c : He.SaysD fa fn K) : Dfn K mg "_law_run" (Fc.topS 45) := by
  obtain ⟨fd, F⟩ := c.def_ 9 (d := ⟨(PySem.Str.ofString "_law_run", none), PySem.Str.ofString "_law_run", PySem.Str.ofString "_law_run", defArgs (Fc.topS 45), defBody (Fc.topS 45), defScope (Fc.topS 45), [], []⟩) rfl
  exact ⟨_, fd, F, He.glo_ok X G (c.fact 13 (f := .glo "_law_run") rfl)⟩
theorem d_signs (X : K.In h) (G : h.Ns mainGlobals mg) (c : He.SaysD fa fn K) : Dfn K mg "of_signs" (Fc.topS 13) := by
  obtain ⟨fd, F⟩ := c.def_ 10 (d := ⟨(PySem.Str.ofString "of_signs", none), PySem.Str.ofString "of_signs", PySem.Str.ofString "of_signs", defArgs (Fc.topS 13), defBody (Fc.topS 13), defScope (Fc.topS 13), [], []⟩) rfl
  exact ⟨_, fd, F, He.glo_ok X G (c.fact 14 (f := .glo "of_signs") rfl)⟩
theorem d_pair (X : K.In h) (G : h.Ns mainGlobals mg) (c : He.SaysD fa fn K) : Dfn K mg "is_pair" (Fc.topS 14) := by
  obtain ⟨fd, F⟩ := c.def_ 11 (d := ⟨(PySem.Str.ofString "is_pair", none), PySem.Str.ofString "is_pair", PySem.Str.ofString "is_pair", defArgs (Fc.topS 14), defBody (Fc.topS 14), defScope (Fc.topS 14), [], []⟩) rfl
  exact ⟨_, fd, F, He.glo_ok X G (c.fact 15 (f := .glo "is_pair") rfl)⟩
theorem d_islay (X : K.In h) (G : h.Ns mainGlobals mg) (c : He.SaysD fa fn K) : Dfn K mg "is_layer" (Fc.topS 15) := by
  obtain ⟨fd, F⟩ := c.def_ 12 (d := ⟨(PySem.Str.ofString "is_layer", none), PySem.Str.ofString "is_layer", PySem.Str.ofString "is_layer", defArgs (Fc.topS 15), defBody (Fc.topS 15), defScope (Fc.topS 15), [], []⟩) rfl
  exact ⟨_, fd, F, He.glo_ok X G (c.fact 16 (f := .glo "is_layer") rfl)⟩
theorem d_isstk (X : K.In h) (G : h.Ns mainGlobals mg) (c : He.SaysD fa fn K) : Dfn K mg "is_stack" (Fc.topS 16) := by
  obtain ⟨fd, F⟩ := c.def_ 13 (d := ⟨(PySem.Str.ofString "is_stack", none), PySem.Str.ofString "is_stack", PySem.Str.ofString "is_stack", defArgs (Fc.topS 16), defBody (Fc.topS 16), defScope (Fc.topS 16), [], []⟩) rfl
  exact ⟨_, fd, F, He.glo_ok X G (c.fact 17 (f := .glo "is_stack") rfl)⟩
theorem d_need_stack (X : K.In h) (G : h.Ns mainGlobals mg) (c : He.SaysD fa fn K) : Dfn K mg "need_stack" (Fc.topS 17) := by
  obtain ⟨fd, F⟩ := c.def_ 14 (d := ⟨(PySem.Str.ofString "need_stack", none), PySem.Str.ofString "need_stack", PySem.Str.ofString "need_stack", defArgs (Fc.topS 17), defBody (Fc.topS 17), defScope (Fc.topS 17), [], []⟩) rfl
  exact ⟨_, fd, F, He.glo_ok X G (c.fact 18 (f := .glo "need_stack") rfl)⟩
theorem d_need_text (X : K.In h) (G : h.Ns mainGlobals mg) (c : He.SaysD fa fn K) : Dfn K mg "need_text" (Fc.topS 18) := by
  obtain ⟨fd, F⟩ := c.def_ 15 (d := ⟨(PySem.Str.ofString "need_text", none), PySem.Str.ofString "need_text", PySem.Str.ofString "need_text", defArgs (Fc.topS 18), defBody (Fc.topS 18), defScope (Fc.topS 18), [], []⟩) rfl
  exact ⟨_, fd, F, He.glo_ok X G (c.fact 19 (f := .glo "need_text") rfl)⟩
theorem d_is_integer (X : K.In h) (G : h.Ns mainGlobals mg) (c : He.SaysD fa fn K) : Dfn K mg "is_integer" (Fc.topS 12) := by
  obtain ⟨fd, F⟩ := c.def_ 16 (d := ⟨(PySem.Str.ofString "is_integer", none), PySem.Str.ofString "is_integer", PySem.Str.ofString "is_integer", defArgs (Fc.topS 12), defBody (Fc.topS 12), defScope (Fc.topS 12), [], []⟩) rfl
  exact ⟨_, fd, F, He.glo_ok X G (c.fact 20 (f := .glo "is_integer") rfl)⟩
theorem d_need_times (X : K.In h) (G : h.Ns mainGlobals mg) (c : He.SaysD fa fn K) : DfnI K mg "need_times" (Fc.topS 19) 1000 := by
  obtain ⟨fd, F⟩ := c.def_ 17 (d := ⟨(PySem.Str.ofString "need_times", none), PySem.Str.ofString "need_times", PySem.Str.ofString "need_times", defArgs (Fc.topS 19), defBody (Fc.topS 19), defScope (Fc.topS 19), [He.Dv.int 1000], []⟩) rfl
  exact ⟨_, fd, F, He.glo_ok X G (c.fact 21 (f := .glo "need_times") rfl)⟩
theorem d_by_layer (X : K.In h) (G : h.Ns mainGlobals mg) (c : He.SaysD fa fn K) : Dfn K mg "by_layer" (Fc.topS 20) := by
  obtain ⟨fd, F⟩ := c.def_ 18 (d := ⟨(PySem.Str.ofString "by_layer", none), PySem.Str.ofString "by_layer", PySem.Str.ofString "by_layer", defArgs (Fc.topS 20), defBody (Fc.topS 20), defScope (Fc.topS 20), [], []⟩) rfl
  exact ⟨_, fd, F, He.glo_ok X G (c.fact 22 (f := .glo "by_layer") rfl)⟩
theorem d_by_stack (X : K.In h) (G : h.Ns mainGlobals mg) (c : He.SaysD fa fn K) : Dfn K mg "by_stack" (Fc.topS 21) := by
  obtain ⟨fd, F⟩ := c.def_ 19 (d := ⟨(PySem.Str.ofString "by_stack", none), PySem.Str.ofString "by_stack", PySem.Str.ofString "by_stack", defArgs (Fc.topS 21), defBody (Fc.topS 21), defScope (Fc.topS 21), [], []⟩) rfl
  exact ⟨_, fd, F, He.glo_ok X G (c.fact 23 (f := .glo "by_stack") rfl)⟩
theorem d_results (X : K.In h) (G : h.Ns mainGlobals mg) (c : He.SaysD fa fn K) : Dfn K mg "results" (Fc.topS 22) := by
  obtain ⟨fd, F⟩ := c.def_ 20 (d := ⟨(PySem.Str.ofString "results", none), PySem.Str.ofString "results", PySem.Str.ofString "results", defArgs (Fc.topS 22), defBody (Fc.topS 22), defScope (Fc.topS 22), [], []⟩) rfl
  exact ⟨_, fd, F, He.glo_ok X G (c.fact 24 (f := .glo "results") rfl)⟩
theorem d_counted (X : K.In h) (G : h.Ns mainGlobals mg) (c : He.SaysD fa fn K) : Dfn K mg "counted" (Fc.topS 23) := by
  obtain ⟨fd, F⟩ := c.def_ 21 (d := ⟨(PySem.Str.ofString "counted", none), PySem.Str.ofString "counted", PySem.Str.ofString "counted", defArgs (Fc.topS 23), defBody (Fc.topS 23), defScope (Fc.topS 23), [], []⟩) rfl
  exact ⟨_, fd, F, He.glo_ok X G (c.fact 25 (f := .glo "counted") rfl)⟩
theorem d_run_counts (X : K.In h) (G : h.Ns mainGlobals mg) (c : He.SaysD fa fn K) : Dfn K mg "run_counts" (Fc.topS 24) := by
  obtain ⟨fd, F⟩ := c.def_ 22 (d := ⟨(PySem.Str.ofString "run_counts", none), PySem.Str.ofString "run_counts", PySem.Str.ofString "run_counts", defArgs (Fc.topS 24), defBody (Fc.topS 24), defScope (Fc.topS 24), [], []⟩) rfl
  exact ⟨_, fd, F, He.glo_ok X G (c.fact 26 (f := .glo "run_counts") rfl)⟩
theorem d_length_by_runs (X : K.In h) (G : h.Ns mainGlobals mg) (c : He.SaysD fa fn K) : Dfn K mg "length_by_runs" (Fc.topS 25) := by
  obtain ⟨fd, F⟩ := c.def_ 23 (d := ⟨(PySem.Str.ofString "length_by_runs", none), PySem.Str.ofString "length_by_runs", PySem.Str.ofString "length_by_runs", defArgs (Fc.topS 25), defBody (Fc.topS 25), defScope (Fc.topS 25), [], []⟩) rfl
  exact ⟨_, fd, F, He.glo_ok X G (c.fact 27 (f := .glo "length_by_runs") rfl)⟩
theorem d_written (X : K.In h) (G : h.Ns mainGlobals mg) (c : He.SaysD fa fn K) : DfnT K mg "written" (Fc.topS 26) := by
  obtain ⟨fd, F⟩ := c.def_ 24 (d := ⟨(PySem.Str.ofString "written", none), PySem.Str.ofString "written", PySem.Str.ofString "written", defArgs (Fc.topS 26), defBody (Fc.topS 26), defScope (Fc.topS 26), [], [(PySem.Str.ofString "times", He.Dv.int 1)]⟩) rfl
  exact ⟨_, fd, F, He.glo_ok X G (c.fact 28 (f := .glo "written") rfl)⟩
theorem d_table_of (X : K.In h) (G : h.Ns mainGlobals mg) (c : He.SaysD fa fn K) : Dfn K mg "table_of" (Fc.topS 28) := by
  obtain ⟨fd, F⟩ := c.def_ 25 (d := ⟨(PySem.Str.ofString "table_of", none), PySem.Str.ofString "table_of", PySem.Str.ofString "table_of", defArgs (Fc.topS 28), defBody (Fc.topS 28), defScope (Fc.topS 28), [], []⟩) rfl
  exact ⟨_, fd, F, He.glo_ok X G (c.fact 29 (f := .glo "table_of") rfl)⟩
theorem d_table (X : K.In h) (G : h.Ns mainGlobals mg) (c : He.SaysD fa fn K) : Dfn K mg "table" (Fc.topS 29) := by
  obtain ⟨fd, F⟩ := c.def_ 26 (d := ⟨(PySem.Str.ofString "table", none), PySem.Str.ofString "table", PySem.Str.ofString "table", defArgs (Fc.topS 29), defBody (Fc.topS 29), defScope (Fc.topS 29), [], []⟩) rfl
  exact ⟨_, fd, F, He.glo_ok X G (c.fact 30 (f := .glo "table") rfl)⟩
theorem d_same (X : K.In h) (G : h.Ns mainGlobals mg) (c : He.SaysD fa fn K) : Dfn K mg "same" (Fc.topS 30) := by
  obtain ⟨fd, F⟩ := c.def_ 27 (d := ⟨(PySem.Str.ofString "same", none), PySem.Str.ofString "same", PySem.Str.ofString "same", defArgs (Fc.topS 30), defBody (Fc.topS 30), defScope (Fc.topS 30), [], []⟩) rfl
  exact ⟨_, fd, F, He.glo_ok X G (c.fact 31 (f := .glo "same") rfl)⟩
theorem d_telling_sign (X : K.In h) (G : h.Ns mainGlobals mg) (c : He.SaysD fa fn K) : Dfn K mg "telling_sign" (Fc.topS 31) := by
  obtain ⟨fd, F⟩ := c.def_ 28 (d := ⟨(PySem.Str.ofString "telling_sign", none), PySem.Str.ofString "telling_sign", PySem.Str.ofString "telling_sign", defArgs (Fc.topS 31), defBody (Fc.topS 31), defScope (Fc.topS 31), [], []⟩) rfl
  exact ⟨_, fd, F, He.glo_ok X G (c.fact 32 (f := .glo "telling_sign") rfl)⟩
theorem d_idle_layers (X : K.In h) (G : h.Ns mainGlobals mg) (c : He.SaysD fa fn K) : Dfn K mg "idle_layers" (Fc.topS 32) := by
  obtain ⟨fd, F⟩ := c.def_ 29 (d := ⟨(PySem.Str.ofString "idle_layers", none), PySem.Str.ofString "idle_layers", PySem.Str.ofString "idle_layers", defArgs (Fc.topS 32), defBody (Fc.topS 32), defScope (Fc.topS 32), [], []⟩) rfl
  exact ⟨_, fd, F, He.glo_ok X G (c.fact 33 (f := .glo "idle_layers") rfl)⟩
theorem d_orders (X : K.In h) (G : h.Ns mainGlobals mg) (c : He.SaysD fa fn K) : Dfn K mg "orders" (Fc.topS 33) := by
  obtain ⟨fd, F⟩ := c.def_ 30 (d := ⟨(PySem.Str.ofString "orders", none), PySem.Str.ofString "orders", PySem.Str.ofString "orders", defArgs (Fc.topS 33), defBody (Fc.topS 33), defScope (Fc.topS 33), [], []⟩) rfl
  exact ⟨_, fd, F, He.glo_ok X G (c.fact 34 (f := .glo "orders") rfl)⟩
theorem d_count_orders (X : K.In h) (G : h.Ns mainGlobals mg) (c : He.SaysD fa fn K) : Dfn K mg "count_orders" (Fc.topS 34) := by
  obtain ⟨fd, F⟩ := c.def_ 31 (d := ⟨(PySem.Str.ofString "count_orders", none), PySem.Str.ofString "count_orders", PySem.Str.ofString "count_orders", defArgs (Fc.topS 34), defBody (Fc.topS 34), defScope (Fc.topS 34), [], []⟩) rfl
  exact ⟨_, fd, F, He.glo_ok X G (c.fact 35 (f := .glo "count_orders") rfl)⟩
theorem d_law (X : K.In h) (G : h.Ns mainGlobals mg) (c : He.SaysD fa fn K) : Dfn K mg "law" (Fc.topS 46) := by
  obtain ⟨fd, F⟩ := c.def_ 32 (d := ⟨(PySem.Str.ofString "law", none), PySem.Str.ofString "law", PySem.Str.ofString "law", defArgs (Fc.topS 46), defBody (Fc.topS 46), defScope (Fc.topS 46), [], []⟩) rfl
  exact ⟨_, fd, F, He.glo_ok X G (c.fact 36 (f := .glo "law") rfl)⟩
theorem facts {f : Addr} (X : K.In h) (G : h.Ns mainGlobals mg) (hfa : mg ("law" : Str) = some (.ref f)) (c : He.SaysD fa fn K) :
    ∃ fd : FuncData, (∀ (s : Shared) (v : Value), BindsTo s fd ⟨[v], []⟩ [("script", v)]) ∧ ∀ base : Heap, K.In base → base.Ns mainGlobals mg → FnOk P w K mg base (L2.CX P w) 13 f fd ["script"] (toSp (Fc.tLaw K)) := by
  obtain ⟨f', fd, F, hm⟩ := (d_law X G c).ex
  have e := hfa.symm.trans hm
  cases e
  have b := bn_of X G c
  refine ⟨fd, fun s v => FunD.bindsA (ps := ["script"]) F (fun _ _ _ _ _ _ us hl => match us, hl with | [_], _ => rfl) s [v] rfl, fun base _ _ => ?_⟩
  have g_MAX_RESULT : ∃ t, mg "MAX_RESULT" = some (.int 10000 t) := He.int_ok X G (c.fact 0 (f := .int "MAX_RESULT" 10000) rfl)
  have g_MAX_LAYERS : ∃ t, mg "MAX_LAYERS" = some (.int 5 t) := He.int_ok X G (c.fact 1 (f := .int "MAX_LAYERS" 5) rfl)
  have g_SIGNS : ∃ t, mg "SIGNS" = some (.str (Dl.sL Fc.SGN) t) := He.str_ok X G (c.fact 2 (f := .str "SIGNS" (Dl.sL Fc.SGN)) rfl)
  have g_MAX_TEXT : ∃ t, mg "MAX_TEXT" = some (.int 200 t) := He.int_ok X G (c.fact 3 (f := .int "MAX_TEXT" 200) rfl)
  have h_cell := Fc.c_cell (P := P) (w := w) (base := base) (d_cell X G c) b
  have h_draws := Fc.c_draws (P := P) (w := w) (base := base) (d_draws X G c) b
  have h_bag := Fc.c_bag (P := P) (w := w) (base := base) (d_bag X G c) h_cell h_draws
  have h_bags := Fc.c_bags (P := P) (w := w) (base := base) (d_bags X G c) b h_bag
  have h_take := Fc.c_take (P := P) (w := w) (base := base) (d_take X G c) b
  have h_pool := Fc.c_pool (P := P) (w := w) (base := base) (d_pool X G c) h_take
  have h_layer := Fc.c_layer (P := P) (w := w) (base := base) (d_layer X G c) b h_take
  have h_stack := Fc.c_stack (P := P) (w := w) (base := base) (d_stack X G c) b h_take h_layer
  have h_text := Fc.c_text (P := P) (w := w) (base := base) (d_text X G c) b h_take
  have h_law_run := Fc.c_lrun (P := P) (w := w) (base := base) (d_law_run X G c) b
  have h_signs := Fc.c_signs (P := P) (w := w) (base := base) (d_signs X G c) b g_SIGNS
  have h_pair := Fc.c_pair (P := P) (w := w) (base := base) (d_pair X G c) b h_signs
  have h_islay := Fc.c_islay (P := P) (w := w) (base := base) (d_islay X G c) b h_pair
  have h_isstk := Fc.c_isstk (P := P) (w := w) (base := base) (d_isstk X G c) b g_MAX_LAYERS h_islay
  have h_need_stack := Fc.c_need_stack (P := P) (w := w) (base := base) (d_need_stack X G c) b h_isstk
  have h_need_text := Fc.c_need_text (P := P) (w := w) (base := base) (d_need_text X G c) b g_MAX_TEXT h_signs
  have h_is_integer := Fc.c_is_integer (P := P) (w := w) (base := base) (d_is_integer X G c) b
  have h_need_times := Fc.c_need_times (P := P) (w := w) (base := base) (d_need_times X G c) b h_is_integer
  have h_by_layer := Fc.c_by_layer (P := P) (w := w) (base := base) (d_by_layer X G c) b
  have h_by_stack := Fc.c_by_stack (P := P) (w := w) (base := base) (d_by_stack X G c) b h_by_layer
  have h_results := Fc.c_results (P := P) (w := w) (base := base) (d_results X G c) b h_by_stack
  have h_counted := Fc.c_counted (P := P) (w := w) (base := base) (d_counted X G c) b
  have h_run_counts := Fc.c_run_counts (P := P) (w := w) (base := base) (d_run_counts X G c) b h_counted
  have h_length_by_runs := Fc.c_length_by_runs (P := P) (w := w) (base := base) (d_length_by_runs X G c) b h_counted h_run_counts
  have h_written := Fc.c_written (P := P) (w := w) (base := base) (d_written X G c) b g_MAX_RESULT h_need_stack h_need_text h_need_times h_results h_length_by_runs
  have h_table_of := Fc.c_table_of (P := P) (w := w) (base := base) (d_table_of X G c) b h_results
  have h_table := Fc.c_table (P := P) (w := w) (base := base) (d_table X G c) h_need_stack h_table_of
  have h_same := Fc.c_same (P := P) (w := w) (base := base) (d_same X G c) h_need_stack h_table_of
  have h_telling_sign := Fc.c_telling_sign (P := P) (w := w) (base := base) (d_telling_sign X G c) b h_need_stack h_results
  have h_idle_layers := Fc.c_idle_layers (P := P) (w := w) (base := base) (d_idle_layers X G c) b h_need_stack h_table_of
  have h_orders := Fc.c_orders (P := P) (w := w) (base := base) (d_orders X G c) b
  have h_count_orders := Fc.c_count_orders (P := P) (w := w) (base := base) (d_count_orders X G c) b h_need_stack h_table_of h_orders
  exact Fc.fd_law F b ⟨h_bags, h_pool, h_stack, h_text, h_law_run, h_written, h_table, h_same, h_telling_sign, h_idle_layers, h_count_orders⟩
end
end K6
open PySem PySem.W PySem.Calls PyProof.Rows
theorem PySem.Challenge.cw_signlayers_k06_whole_stacks_on_all_texts_holds : PySem.Challenge.rw_signlayers_k06_whole_stacks_on_all_texts.Holds := by
  w_on; o_law
  refine HandSHeadRun.head_any (r := OpenLaw.row PySem.Challenge.rw_signlayers_k06_whole_stacks_on_all_texts) (q := view (OpenLaw.row PySem.Challenge.rw_signlayers_k06_whole_stacks_on_all_texts).prog [46]) (H := K6.hk) (ob := K6.ob) (M := 20000) (loose := K6.names) (d := HandSHeadRun.topDef (OpenLaw.row PySem.Challenge.rw_signlayers_k06_whole_stacks_on_all_texts).prog 46) (kwd := []) K6.ob_eq
    (by kernel_rfl) (fun s => by kernel_rfl) K6.run (by kernel_rfl) (by kernel_rfl) (by kernel_rfl) (by rfl) (by first | assumption | decide +kernel) (by decide +kernel) ⟨rfl, rfl, rfl, rfl, rfl, by decide +kernel⟩ ?hw ?hc
  case hw => w_witness2
  case hc =>
    refine K6.walk_w (l := PySem.Challenge.rw_signlayers_k06_whole_stacks_on_all_texts) (n := 63) (k := 13) (x := "script") (CX := fun w => L2.CX (PySem.Challenge.rw_signlayers_k06_whole_stacks_on_all_texts).prog w) rfl (by decide) (by kernel_rfl) ⟨rfl, by decide, by decide⟩ ?F (fun w H s e s' z => by
      obtain ⟨_, _, _, _, _, _, _, _, _, _, _, _, z⟩ := z
      exact z)
    intro w mg fa h Y G hmg0
    obtain ⟨K, KX, c⟩ := Y
    have hmg : mg ("law" : PySem.Str) = some (.ref fa) := by
      have e : (HandSHeadRun.topDef (OpenLaw.row PySem.Challenge.rw_signlayers_k06_whole_stacks_on_all_texts).prog 46).name = ("law" : PySem.Str) := by kernel_rfl
      rw [← e]
      exact hmg0
    obtain ⟨fd, hb, hF⟩ := K6.facts (P := (PySem.Challenge.rw_signlayers_k06_whole_stacks_on_all_texts).prog) (w := w) KX G hmg c
    exact ⟨K, fd, Dl.toSp (Fc.tLaw K), KX, hb, fun H a ns hl hO hS => K6.law_sp hO hS, hF⟩
