import PyProof.Rows.All
import Wide.All
import OpenK.AllK
import Wide.FinOn
import HandS.ForMost
import HandS.Flow
import HandS.IsInst
import HandS.Wide
import HandS.SetKeys
import HandS.TupAny
import HandS.WordsExc
import HandS.CallSlots
import HandS.Evl
import HandS.Zip
import HandS.Set
import HandS.Strs
import HandS.SetBool
import HandS.SetFor
import PyProof.CollectStr
import PyProof.Rows.SortShellSt
import HandS.Style
import HandS.TupMul
import HandS.TupLe
import HandS.Text
import PyProof.CallFns
import PyProof.StrOps2
import PyProof.Rows.FactsN_isinstance
import HandS.Defaults
import PySem.Challenge.RW_signlayers_k01_layers_and_stacks_recogni
import KE.KStateDown
import HandS.More
import HandS.Words
import HandS.Head0
import HandS.Head1
import HandS.Head2
import HandS.HeadEnd
import HandS.HeadHook1
import HandS.HeadHook2
set_option Elab.async false
set_option linter.all false
set_option maxRecDepth 100000
set_option maxHeartbeats 4000000
/-! The data logic: slots hold plain data, owned objects stand in a store. -/
namespace Dl
open PySem PySem.Spec PyProof.Rows L2
open Evl (Ex)

abbrev D := PyData
/-- what a slot (or a value) is -/
inductive Kd where
  | und
  | dat (d : D)
  | val (v : V)
/-- what an owned object holds -/
inductive Ob where
  | ol (ds : List D)
  | od (kvs : List (Str × D))
  | oz (o : Obj) (ws : List (Key × V)) (kvs : List (Str × D))
  | raw (o : HO)
  | okl (ks : List Kd)
abbrev Store := List (Addr × Ob)

mutual
/-- v stands for d; its lists and tuples stand in G -/
inductive DP (G : Hp) : V → D → Prop
  | non : DP G .non .none
  | bl (b : Bool) : DP G (.bl b) (.bool b)
  | int (i : Int) : DP G (.int i) (.int i)
  | str (x : Str) : DP G (.str x) (.str x)
  | lst {a : Addr} {xs : List V} {ds : List D} : G a = some (.lst xs) → DPs G xs ds → DP G (.ref a) (.list ds)
  | tup {a : Addr} {xs : List V} {ds : List D} : G a = some (.tup xs) → DPs G xs ds → DP G (.ref a) (.tuple ds)
  | dct {a : Addr} {o : Obj} {ws : List (Key × V)} {kvs : List (D × D)} : G a = some (.frz o (.dK ws)) → DPk G ws kvs → DP G (.ref a) (.dict kvs)
inductive DPs (G : Hp) : List V → List D → Prop
  | nil : DPs G [] []
  | cons {v : V} {vs : List V} {d : D} {ds : List D} : DP G v d → DPs G vs ds → DPs G (v :: vs) (d :: ds)
inductive DPk (G : Hp) : List (Key × V) → List (D × D) → Prop
  | nil : DPk G [] []
  | cons {s : Str} {v : V} {vs : List (Key × V)} {d : D} {ds : List (D × D)} : DP G v d → DPk G vs ds → DPk G ((.inr s, v) :: vs) ((.str s, d) :: ds)
end
def KvD (G : Hp) : List (Key × V) → List (Str × D) → Prop := Paired fun a b => a.1 = Sum.inr b.1 ∧ DP G a.2 b.2
def KdAt (G : Hp) : V → Kd → Prop
  | _, .und => True
  | v, .dat d => DP G v d
  | v, .val w => v = w
def ObAt (G H : Hp) (p : Addr) : Ob → Prop
  | .ol ds => ∃ vs, H p = some (.lst vs) ∧ DPs G vs ds
  | .od kvs => ∃ ws, H p = some (.dK ws) ∧ KvD G ws kvs
  | .oz o ws kvs => H p = some (.frz o (.dK ws)) ∧ KvD G ws kvs
  | .raw o => H p = some o
  | .okl ks => ∃ vs, H p = some (.lst vs) ∧ Paired (KdAt G) vs ks
def SlAt (G : Hp) : Option V → Kd → Prop
  | _, .und => True
  | some v, k => KdAt G v k
  | none, _ => False
abbrev Slots (G : Hp) : L2.St → List Kd → Prop := Paired (SlAt G)
abbrev Kinds (G : Hp) : List V → List Kd → Prop := Paired (KdAt G)

/-- the state: G0, H0 at the entry (what the caller keeps), G: the plain data, H: all that is tracked -/
structure Sta (G0 H0 G H : Hp) (σ : L2.St) (ss : List Kd) (O : Store) : Prop where
  g0 : Ex G0 G
  h0 : Ex H0 H
  gh : Ex G H
  fr : ∀ a o, G a = some o → G0 a = some o ∨ H0 a = none
  sl : Slots G σ ss
  nd : (O.map (·.1)).Nodup
  ob : ∀ q ∈ O, ObAt G H q.1 q.2 ∧ G q.1 = none ∧ H0 q.1 = none

mutual
/-- no dict in it -/
def nod : D → Bool
  | .list ds => nods ds
  | .tuple ds => nods ds
  | .dict _ => false
  | _ => true
def nods : List D → Bool
  | [] => true
  | d :: ds => nod d && nods ds
end
mutual
theorem dp_of {K : PySem.W.Frag} {G : Hp} : ∀ {v : V} {d : D}, nod d = true → DP G v d → Dp K G v d
  | _, _, _, .non => .non
  | _, _, _, .bl b => .bl b
  | _, _, _, .int i => .int i
  | _, _, _, .str x => .str x
  | _, _, n, .lst h a => .lst (.of h) (dps_of (by unfold nod at n; exact n) a)
  | _, _, n, .tup h a => .tup (.of h) (dps_of (by unfold nod at n; exact n) a)
  | _, _, n, .dct _ _ => by unfold nod at n; cases n
theorem dps_of {K : PySem.W.Frag} {G : Hp} : ∀ {vs : List V} {ds : List D}, nods ds = true → DPs G vs ds → DpAll K G vs ds
  | _, _, _, .nil => .nil
  | _, _, n, .cons h a => by
    unfold nods at n
    rw [Bool.and_eq_true] at n
    exact .cons (dp_of n.1 h) (dps_of n.2 a)
end
/-! ### data along a heap that grows -/
mutual
theorem dp_ex {H H' : Hp} (e : Ex H H') : ∀ {v : V} {d : D}, DP H v d → DP H' v d
  | _, _, .non => .non
  | _, _, .bl b => .bl b
  | _, _, .int i => .int i
  | _, _, .str x => .str x
  | _, _, .lst h a => .lst (e _ _ h) (dpAll_ex e a)
  | _, _, .tup h a => .tup (e _ _ h) (dpAll_ex e a)
  | _, _, .dct h a => .dct (e _ _ h) (dpk_ex e a)
theorem dpAll_ex {H H' : Hp} (e : Ex H H') : ∀ {vs : List V} {ds : List D}, DPs H vs ds → DPs H' vs ds
  | _, _, .nil => .nil
  | _, _, .cons h a => .cons (dp_ex e h) (dpAll_ex e a)
theorem dpk_ex {H H' : Hp} (e : Ex H H') : ∀ {vs : List (Key × V)} {ds : List (D × D)}, DPk H vs ds → DPk H' vs ds
  | _, _, .nil => .nil
  | _, _, .cons h a => .cons (dp_ex e h) (dpk_ex e a)
end
/-- a dict as plain data -/
def dK (kvs : List (Str × D)) : D := .dict (kvs.map fun p => (.str p.1, p.2))
theorem dpk_to {G : Hp} : ∀ {ws : List (Key × V)} {kvs : List (Str × D)}, KvD G ws kvs → DPk G ws (kvs.map fun p => (.str p.1, p.2))
  | _, _, .nil => .nil
  | (_, _) :: _, (_, _) :: _, .cons ⟨e, r⟩ t => by
    cases e
    exact .cons r (dpk_to t)
theorem dpk_of {G : Hp} : ∀ {ws : List (Key × V)} {kvs : List (Str × D)}, DPk G ws (kvs.map fun p => (.str p.1, p.2)) → KvD G ws kvs
  | _, [], h => by cases h; exact .nil
  | _, (s, d) :: kvs, h => by
    cases h with
    | cons r t => exact .cons ⟨rfl, r⟩ (dpk_of t)
theorem kv_ex {H H' : Hp} (e : Ex H H') {ws : List (Key × V)} {kvs : List (Str × D)} (h : KvD H ws kvs) : KvD H' ws kvs := Paired.mapP h fun _ _ q => ⟨q.1, dp_ex e q.2⟩
theorem kd_ex {H H' : Hp} (e : Ex H H') {v : V} : ∀ {k : Kd}, KdAt H v k → KdAt H' v k
  | .und, _ => trivial
  | .dat _, h => dp_ex e h
  | .val _, h => h
theorem sl_ex {H H' : Hp} (e : Ex H H') : ∀ {o : Option V} {k : Kd}, SlAt H o k → SlAt H' o k
  | _, .und, _ => by cases ‹Option V› <;> trivial
  | some _, .dat _, h => dp_ex e h
  | some _, .val _, h => h
theorem slots_ex {H H' : Hp} (e : Ex H H') {σ : L2.St} {ss : List Kd} (h : Slots H σ ss) : Slots H' σ ss := Paired.mapP h fun _ _ q => sl_ex e q
theorem kinds_ex {H H' : Hp} (e : Ex H H') {σ : List V} {ss : List Kd} (h : Kinds H σ ss) : Kinds H' σ ss := Paired.mapP h fun _ _ q => kd_ex e q
/-- the object's description, G grown, its own place as it was -/
theorem ob_ex {G G' H H' : Hp} {p : Addr} (e : Ex G G') (h : H' p = H p) : ∀ {b : Ob}, ObAt G H p b → ObAt G' H' p b
  | .ol _, ⟨vs, a, r⟩ => ⟨vs, h.trans a, dpAll_ex e r⟩
  | .od _, ⟨ws, a, r⟩ => ⟨ws, h.trans a, kv_ex e r⟩
  | .oz _ _ _, ⟨a, r⟩ => ⟨h.trans a, kv_ex e r⟩
  | .raw _, a => h.trans a
  | .okl _, ⟨vs, a, r⟩ => ⟨vs, h.trans a, kinds_ex e r⟩
theorem ob_some {G H : Hp} {p : Addr} : ∀ {b : Ob}, ObAt G H p b → ∃ o, H p = some o
  | .ol _, ⟨_, a, _⟩ => ⟨_, a⟩
  | .od _, ⟨_, a, _⟩ => ⟨_, a⟩
  | .oz _ _ _, ⟨a, _⟩ => ⟨_, a⟩
  | .raw _, a => ⟨_, a⟩
  | .okl _, ⟨_, a, _⟩ => ⟨_, a⟩

theorem paired_get {α β : Type} {F : α → β → Prop} : ∀ {xs : List α} {ys : List β} {i : Nat} {y : β}, Paired F xs ys → ys[i]? = some y → ∃ x, xs[i]? = some x ∧ F x y
  | _, _, _, _, .nil, e => by simp at e
  | _, _, 0, _, .cons r _, e => by simp at e; subst e; exact ⟨_, rfl, r⟩
  | _, _, i + 1, y, .cons _ t, e => by
    obtain ⟨u, h1, h2⟩ := paired_get (i := i) (y := y) t (by simpa using e)
    exact ⟨u, by simpa using h1, h2⟩
theorem paired_set {α β : Type} {F : α → β → Prop} {x : α} {y : β} (r : F x y) : ∀ {xs : List α} {ys : List β} (i : Nat), Paired F xs ys → Paired F (xs.set i x) (ys.set i y)
  | _, _, _, .nil => .nil
  | _, _, 0, .cons _ t => .cons r t
  | _, _, i + 1, .cons q t => .cons q (paired_set r i t)
theorem paired_app {α β : Type} {F : α → β → Prop} : ∀ {xs xs' : List α} {ys ys' : List β}, Paired F xs ys → Paired F xs' ys' → Paired F (xs ++ xs') (ys ++ ys')
  | _, _, _, _, .nil, s => s
  | _, _, _, _, .cons r t, s => .cons r (paired_app t s)
theorem paired_len {α β : Type} {F : α → β → Prop} : ∀ {xs : List α} {ys : List β}, Paired F xs ys → xs.length = ys.length
  | _, _, .nil => rfl
  | _, _, .cons _ t => congrArg (· + 1) (paired_len t)
theorem dpAll_of {H : Hp} : ∀ {vs : List V} {ds : List D}, Paired (DP H) vs ds → DPs H vs ds
  | _, _, .nil => .nil
  | _, _, .cons r t => .cons r (dpAll_of t)
theorem dpAll_to {H : Hp} : ∀ {vs : List V} {ds : List D}, DPs H vs ds → Paired (DP H) vs ds
  | _, _, .nil => .nil
  | _, _, .cons r t => .cons r (dpAll_to t)
theorem dpAll_len {H : Hp} {vs : List V} {ds : List D} (h : DPs H vs ds) : vs.length = ds.length := paired_len (dpAll_to h)
theorem dpAll_get {H : Hp} {vs : List V} {ds : List D} {i : Nat} {d : D} (h : DPs H vs ds) (e : ds[i]? = some d) : ∃ v, vs[i]? = some v ∧ DP H v d := paired_get (dpAll_to h) e
theorem dpAll_app {H : Hp} {vs vs' : List V} {ds ds' : List D} (h : DPs H vs ds) (h' : DPs H vs' ds') : DPs H (vs ++ vs') (ds ++ ds') := dpAll_of (paired_app (dpAll_to h) (dpAll_to h'))

section
variable {G0 H0 G H : Hp} {σ : L2.St} {ss : List Kd} {O : Store}
theorem Sta.slot (S : Sta G0 H0 G H σ ss O) {i : Nat} {k : Kd} (h : ss[i]? = some k) (hk : k ≠ .und) : ∃ v, σ[i]? = some (some v) ∧ KdAt G v k := by
  obtain ⟨o, h1, h2⟩ := paired_get S.sl h
  cases o with
  | none => cases k with
    | und => exact absurd rfl hk
    | dat _ => exact h2.elim
    | val _ => exact h2.elim
  | some v => cases k with
    | und => exact absurd rfl hk
    | dat _ => exact ⟨v, h1, h2⟩
    | val _ => exact ⟨v, h1, h2⟩
theorem Sta.set (S : Sta G0 H0 G H σ ss O) (i : Nat) {v : V} {k : Kd} (h : KdAt G v k) : Sta G0 H0 G H (σ.set i (some v)) (ss.set i k) O :=
  ⟨S.g0, S.h0, S.gh, S.fr, paired_set (by cases k <;> first | trivial | exact h) i S.sl, S.nd, S.ob⟩
/-- the objects other than those at q keep their places -/
theorem Sta.free (S : Sta G0 H0 G H σ ss O) {p : Addr} (h : H p = none) : G p = none := by
  cases e : G p with
  | none => rfl
  | some o =>
    have := S.gh p o e
    rw [h] at this
    cases this
theorem Sta.free0 (S : Sta G0 H0 G H σ ss O) {p : Addr} (h : H p = none) : H0 p = none := by
  cases e : H0 p with
  | none => rfl
  | some o =>
    have := S.h0 p o e
    rw [h] at this
    cases this
theorem Sta.notIn (S : Sta G0 H0 G H σ ss O) {p : Addr} (h : H p = none) : p ∉ O.map (·.1) := fun hp => by
  obtain ⟨q, hq, e⟩ := List.mem_map.mp hp
  obtain ⟨o, ho⟩ := ob_some (S.ob q hq).1
  rw [e, h] at ho
  cases ho
/-- a new piece of data -/
theorem Sta.data (S : Sta G0 H0 G H σ ss O) {p : Addr} (h : H p = none) (o : HO) : Sta G0 H0 (upd G p o) (upd H p o) σ ss O := by
  have eg : Ex G (upd G p o) := Ex.new (S.free h)
  refine ⟨S.g0.trans eg, S.h0.trans (Ex.new h), fun a u e => ?_, fun a u e => ?_, slots_ex eg S.sl, S.nd, fun q hq => ?_⟩
  · by_cases ha : a = p
    · subst ha; rw [upd_same] at e ⊢; exact e
    · rw [upd_ne ha] at e ⊢; exact S.gh a u e
  · by_cases ha : a = p
    · subst ha; exact .inr (S.free0 h)
    · rw [upd_ne ha] at e; exact S.fr a u e
  · obtain ⟨a, b, c⟩ := S.ob q hq
    obtain ⟨u, hu⟩ := ob_some a
    have ne : q.1 ≠ p := fun z => by rw [z, h] at hu; cases hu
    exact ⟨ob_ex eg (upd_ne ne) a, by rw [upd_ne ne]; exact b, c⟩
/-- a new owned object -/
theorem Sta.new (S : Sta G0 H0 G H σ ss O) {p : Addr} (h : H p = none) {o : HO} {b : Ob} (hb : ObAt G (upd H p o) p b) : Sta G0 H0 G (upd H p o) σ ss ((p, b) :: O) := by
  refine ⟨S.g0, S.h0.trans (Ex.new h), S.gh.trans (Ex.new h), S.fr, S.sl, List.nodup_cons.mpr ⟨S.notIn h, S.nd⟩, fun q hq => ?_⟩
  rcases List.mem_cons.mp hq with rfl | hq
  · exact ⟨hb, S.free h, S.free0 h⟩
  · obtain ⟨a, b, c⟩ := S.ob q hq
    obtain ⟨u, hu⟩ := ob_some a
    have ne : q.1 ≠ p := fun z => by rw [z, h] at hu; cases hu
    exact ⟨ob_ex (fun _ _ e => e) (upd_ne ne) a, b, c⟩
theorem nd_get {O : Store} {i j : Nat} {a b : Addr × Ob} (h : (O.map (·.1)).Nodup) (hi : O[i]? = some a) (hj : O[j]? = some b) (e : a.1 = b.1) : i = j := by
  have h1 : (O.map (·.1))[i]? = some a.1 := by rw [List.getElem?_map, hi]; rfl
  have h2 : (O.map (·.1))[j]? = some a.1 := by rw [List.getElem?_map, hj, e]; rfl
  obtain ⟨l1, e1⟩ := List.getElem?_eq_some_iff.mp h1
  obtain ⟨l2, e2⟩ := List.getElem?_eq_some_iff.mp h2
  exact (List.getElem_inj h).mp (e1.trans e2.symm)
/-- an owned object changes -/
theorem Sta.put (S : Sta G0 H0 G H σ ss O) {i : Nat} {p : Addr} {b0 b : Ob} (hi : O[i]? = some (p, b0)) {o : HO} (hb : ObAt G (upd H p o) p b) : Sta G0 H0 G (upd H p o) σ ss (O.set i (p, b)) := by
  obtain ⟨_, gp, hp⟩ := S.ob _ (List.mem_of_getElem? hi)
  have keys : (O.set i (p, b)).map (·.1) = O.map (·.1) := by
    rw [List.map_set]
    have : (O.map (·.1))[i]? = some p := by rw [List.getElem?_map, hi]; rfl
    obtain ⟨l, e⟩ := List.getElem?_eq_some_iff.mp this
    show (O.map (·.1)).set i p = _
    rw [← e]
    exact List.set_getElem_self l
  refine ⟨S.g0, Ex.mut S.h0 hp, Ex.mut S.gh gp, S.fr, S.sl, by rw [keys]; exact S.nd, fun q hq => ?_⟩
  obtain ⟨j, hj⟩ := List.mem_iff_getElem?.mp hq
  by_cases e : i = j
  · subst e
    rw [List.getElem?_set_self (List.getElem?_eq_some_iff.mp hi).1] at hj
    cases hj
    exact ⟨hb, gp, hp⟩
  · rw [List.getElem?_set_ne e] at hj
    have ne : q.1 ≠ p := fun z => e (nd_get S.nd hi hj z.symm)
    obtain ⟨a, b, c⟩ := S.ob q (List.mem_of_getElem? hj)
    exact ⟨ob_ex (fun _ _ e => e) (upd_ne ne) a, b, c⟩
/-- an owned list becomes plain data -/
theorem Sta.freeze (S : Sta G0 H0 G H σ ss O) {i : Nat} {p : Addr} {ds : List D} (hi : O[i]? = some (p, .ol ds)) : ∃ G', Sta G0 H0 G' H σ ss (O.eraseIdx i) ∧ Ex G G' ∧ DP G' (.ref p) (.list ds) := by
  obtain ⟨⟨vs, hv, ha⟩, gp, hp⟩ := S.ob _ (List.mem_of_getElem? hi)
  have eg : Ex G (upd G p (.lst vs)) := Ex.new gp
  refine ⟨upd G p (.lst vs), ⟨S.g0.trans eg, S.h0, fun a u e => ?_, fun a u e => ?_, slots_ex eg S.sl, ?_, fun q hq => ?_⟩, eg, .lst upd_same (dpAll_ex eg ha)⟩
  · by_cases h : a = p
    · subst h; rw [upd_same] at e; rw [← e]; exact hv
    · rw [upd_ne h] at e; exact S.gh a u e
  · by_cases h : a = p
    · subst h; exact .inr hp
    · rw [upd_ne h] at e; exact S.fr a u e
  · exact S.nd.sublist ((List.eraseIdx_sublist O i).map _)
  · obtain ⟨j, hj, e⟩ := List.mem_eraseIdx_iff_getElem?.mp hq
    have ne : q.1 ≠ p := fun z => hj (nd_get S.nd e hi z)
    obtain ⟨a, b, c⟩ := S.ob q (List.mem_of_getElem? e)
    exact ⟨ob_ex eg rfl a, by rw [upd_ne ne]; exact b, c⟩
/-- an owned dict becomes plain data (locked from then on) -/
theorem Sta.freezeD (S : Sta G0 H0 G H σ ss O) {i : Nat} {p : Addr} {kvs : List (Str × D)} (hi : O[i]? = some (p, .od kvs)) : ∃ ws, H p = some (.dK ws) ∧ ∀ od, Sta G0 H0 (upd G p (.frz od (.dK ws))) (upd H p (.frz od (.dK ws))) σ ss (O.eraseIdx i) ∧ Ex G (upd G p (.frz od (.dK ws))) ∧ DP (upd G p (.frz od (.dK ws))) (.ref p) (dK kvs) := by
  obtain ⟨⟨ws, hv, ha⟩, gp, hp⟩ := S.ob _ (List.mem_of_getElem? hi)
  refine ⟨ws, hv, fun od => ?_⟩
  have eg : Ex G (upd G p (.frz od (.dK ws))) := Ex.new gp
  refine ⟨⟨S.g0.trans eg, Ex.mut S.h0 hp, fun a u e => ?_, fun a u e => ?_, slots_ex eg S.sl, ?_, fun q hq => ?_⟩, eg, .dct upd_same (dpk_ex eg (dpk_to ha))⟩
  · by_cases h : a = p
    · subst h; rw [upd_same] at e ⊢; exact e
    · rw [upd_ne h] at e ⊢; exact S.gh a u e
  · by_cases h : a = p
    · subst h; exact .inr hp
    · rw [upd_ne h] at e; exact S.fr a u e
  · exact S.nd.sublist ((List.eraseIdx_sublist O i).map _)
  · obtain ⟨j, hj, e⟩ := List.mem_eraseIdx_iff_getElem?.mp hq
    have ne : q.1 ≠ p := fun z => hj (nd_get S.nd e hi z)
    obtain ⟨a, b, c⟩ := S.ob q (List.mem_of_getElem? e)
    exact ⟨ob_ex eg (upd_ne ne) a, by rw [upd_ne ne]; exact b, c⟩
/-- fewer owned objects, other slots -/
theorem Sta.less (S : Sta G0 H0 G H σ ss O) {O' : Store} (h : ∀ q ∈ O', q ∈ O) (nd : (O'.map (·.1)).Nodup) : Sta G0 H0 G H σ ss O' := ⟨S.g0, S.h0, S.gh, S.fr, S.sl, nd, fun q hq => S.ob q (h q hq)⟩
/-- the first object told otherwise -/
theorem Sta.cast {p : Addr} {b b' : Ob} (S : Sta G0 H0 G H σ ss ((p, b) :: O)) (h : ObAt G H p b → ObAt G H p b') : Sta G0 H0 G H σ ss ((p, b') :: O) :=
  ⟨S.g0, S.h0, S.gh, S.fr, S.sl, S.nd, fun q hq => by
    rcases List.mem_cons.mp hq with rfl | hq
    · exact ⟨h (S.ob _ List.mem_cons_self).1, (S.ob _ List.mem_cons_self).2⟩
    · exact S.ob q (List.mem_cons_of_mem _ hq)⟩
theorem Sta.slots (S : Sta G0 H0 G H σ ss O) {σ' : L2.St} {ss' : List Kd} (h : Slots G σ' ss') : Sta G0 H0 G H σ' ss' O := ⟨S.g0, S.h0, S.gh, S.fr, h, S.nd, S.ob⟩
end
end Dl
namespace Dl
open PySem PySem.Spec PyProof.Rows L2
open Evl (Ex)

def noStar : Expr → Bool
  | .Starred _ _ => false
  | _ => true
theorem star_ne {e : Expr} {es : List Expr} {env : Env} (h : noStar e = true) : starEach (e :: es) env = (false, eval e env) :: starEach es env := by
  cases e <;> first | rfl | cases h
/-! ### the widest readings -/
structure WE_ (X : Cx) (e : Expr) (σ : L2.St) (H : Hp) (Q : VK) : Prop where
  run : ∀ pins s, Inv X pins σ H s → wpAny (model X.prog X.w) X.A (eval e X.env) (EP X pins σ Q) X.xe s
def wE (X : Cx) (e : Expr) : TE := WE_ X e
structure WT_ (X : Cx) (e : Expr) (σ : L2.St) (H : Hp) (Q : Bool → Hp → Prop) : Prop where
  run : ∀ pins s, Inv X pins σ H s → wpAny (model X.prog X.w) X.A (isTrue e X.env (eval e X.env)) (TP X pins σ Q) X.xe s
def wT (X : Cx) (e : Expr) : TT := WT_ X e
structure WA_ (X : Cx) (es : List Expr) (σ : L2.St) (H : Hp) (Q : List V → Hp → Prop) : Prop where
  run : ∀ pos pins s, Inv X pins σ H s → wpAny (model X.prog X.w) X.A (spliced (backTo pos (starEach es X.env))) (AP X pins σ Q) X.xe s
def wA (X : Cx) (es : List Expr) : TA := WA_ X es
structure WS_ (X : Cx) (st : Stmt) (D : Ends) (σ : L2.St) (H : Hp) : Prop where
  run : ∀ pins s, Inv X pins σ H s → wpAny (model X.prog X.w) X.A (exec st X.env) (SP X pins D) X.xe s
def wS (X : Cx) (st : Stmt) : TS := WS_ X st
structure WSS_ (X : Cx) (sts : List Stmt) (D : Ends) (σ : L2.St) (H : Hp) : Prop where
  run : ∀ pins s, Inv X pins σ H s → wpAny (model X.prog X.w) X.A (execs sts X.env) (SP X pins D) X.xe s
def wSs (X : Cx) (sts : List Stmt) : TS := WSS_ X sts
def wX (X : Cx) : WX := fun cls d σ H => ∀ u s', XE X (fun c' d' σ' H' => c' = cls ∧ d' = d ∧ σ' = σ ∧ H' = H) u s' → X.xe u s'
section
variable {X : Cx}
theorem peW {e : Expr} : PE X e (wE X e) := ⟨fun pins s _ _ _ I h => h.run pins s I⟩
theorem ptW {e : Expr} : PT X e (wT X e) := ⟨fun pins s _ _ _ I h => h.run pins s I⟩
theorem paW {es : List Expr} : PA X es (wA X es) := ⟨fun pos pins s _ _ _ I h => h.run pos pins s I⟩
theorem psW {st : Stmt} : PS X st (wS X st) := ⟨fun pins s _ _ _ I h => h.run pins s I⟩
theorem pssW {sts : List Stmt} : PSs X sts (wSs X sts) := ⟨fun pins s _ _ _ I h => h.run pins s I⟩
theorem wE_of {e : Expr} {t : TE} (h : PE X e t) {σ : L2.St} {H : Hp} {Q : VK} (q : t σ H Q) : wE X e σ H Q := ⟨fun pins s I => h.run pins s σ H Q I q⟩
theorem wT_of {e : Expr} {t : TT} (h : PT X e t) {σ : L2.St} {H : Hp} {Q : Bool → Hp → Prop} (q : t σ H Q) : wT X e σ H Q := ⟨fun pins s I => h.run pins s σ H Q I q⟩
theorem wA_of {es : List Expr} {t : TA} (h : PA X es t) {σ : L2.St} {H : Hp} {Q : List V → Hp → Prop} (q : t σ H Q) : wA X es σ H Q := ⟨fun pos pins s I => h.run pos pins s σ H Q I q⟩
theorem wS_of {st : Stmt} {t : TS} (h : PS X st t) {D : Ends} {σ : L2.St} {H : Hp} (q : t D σ H) : wS X st D σ H := ⟨fun pins s I => h.run pins s σ H D I q⟩
theorem wSs_of {sts : List Stmt} {t : TS} (h : PSs X sts t) {D : Ends} {σ : L2.St} {H : Hp} (q : t D σ H) : wSs X sts D σ H := ⟨fun pins s I => h.run pins s σ H D I q⟩
theorem takesW : Takes X (wX X) := fun u s' ⟨a, B, sI, pins, σ, H, cls, d, e, I, nb, up, sky, na, os, ag, w⟩ =>
  w u s' ⟨a, B, sI, pins, σ, H, cls, d, e, I, nb, up, sky, na, os, ag, rfl, rfl, rfl, rfl⟩
theorem wX_of {cls : Value} {d : Option Addr} {σ : L2.St} {H : Hp} {W : WX} (t : Takes X W) (h : W cls d σ H) : wX X cls d σ H := fun u s' x =>
  t u s' (by
    obtain ⟨a, B, sI, pins, σ', H', cls', d', e, I, nb, up, sky, na, os, ag, h1, h2, h3, h4⟩ := x
    subst h1 h2 h3 h4
    exact ⟨a, B, sI, pins, _, _, _, _, e, I, nb, up, sky, na, os, ag, h⟩)
end

/-! ### judgements over data -/
/-- the classes of R may be raised -/
def Lt (X : Cx) (R : Addr → Prop) (H0 : Hp) : Prop := ∀ C, R C → ∀ σ H', Ex H0 H' → wX X (.ref C) none σ H'
abbrev No : Addr → Prop := fun _ => False
theorem Lt.no {X : Cx} {H0 : Hp} : Lt X No H0 := fun _ h => h.elim
/-- what is wanted behind an expression -/
def Wt (X : Cx) (G0 H0 G : Hp) (σ : L2.St) (ss : List Kd) (Φ : Kd → Store → Prop) (Q : VK) : Prop :=
  ∀ G' H' v k O', Sta G0 H0 G' H' σ ss O' → Ex G G' → KdAt G' v k → Φ k O' → Q v H'
theorem Wt.d {X : Cx} {G0 H0 G G' H' : Hp} {σ : L2.St} {ss : List Kd} {Φ : Kd → Store → Prop} {Q : VK} {v : V} {d : D} {O' : Store} (h : Wt X G0 H0 G σ ss Φ Q) (S : Sta G0 H0 G' H' σ ss O') (e : Ex G G') (r : DP G' v d) (p : Φ (.dat d) O') : Q v H' := h G' H' v (.dat d) O' S e r p
theorem Wt.v {X : Cx} {G0 H0 G G' H' : Hp} {σ : L2.St} {ss : List Kd} {Φ : Kd → Store → Prop} {Q : VK} {v : V} {O' : Store} (h : Wt X G0 H0 G σ ss Φ Q) (S : Sta G0 H0 G' H' σ ss O') (e : Ex G G') (p : Φ (.val v) O') : Q v H' := h G' H' v (.val v) O' S e rfl p
def EJ (X : Cx) (R : Addr → Prop) (e : Expr) (ss : List Kd) (O : Store) (Φ : Kd → Store → Prop) : Prop :=
  ∀ G0 H0 G H σ, Sta G0 H0 G H σ ss O → Lt X R H0 → ∀ Q : VK, Wt X G0 H0 G σ ss Φ Q → wE X e σ H Q
def TJ (X : Cx) (R : Addr → Prop) (e : Expr) (ss : List Kd) (O : Store) (Φ : Bool → Store → Prop) : Prop :=
  ∀ G0 H0 G H σ, Sta G0 H0 G H σ ss O → Lt X R H0 → ∀ Q : Bool → Hp → Prop, (∀ G' H' b O', Sta G0 H0 G' H' σ ss O' → Ex G G' → Φ b O' → Q b H') → wT X e σ H Q
def AJ (X : Cx) (R : Addr → Prop) (es : List Expr) (ss : List Kd) (O : Store) (Φ : List Kd → Store → Prop) : Prop :=
  ∀ G0 H0 G H σ, Sta G0 H0 G H σ ss O → Lt X R H0 → ∀ Q : List V → Hp → Prop, (∀ G' H' vs ks O', Sta G0 H0 G' H' σ ss O' → Ex G G' → Kinds G' vs ks → Φ ks O' → Q vs H') → wA X es σ H Q
def EV (X : Cx) (R : Addr → Prop) (e : Expr) (ss : List Kd) (O : Store) (k : Kd) (O' : Store) : Prop := EJ X R e ss O fun k1 O1 => k1 = k ∧ O1 = O'
/-- a new object -/
def EN (X : Cx) (R : Addr → Prop) (e : Expr) (ss : List Kd) (O : Store) (b : Ob) (O' : Store) : Prop := EJ X R e ss O fun k1 O1 => ∃ p, k1 = .val (.ref p) ∧ O1 = (p, b) :: O'
def TV (X : Cx) (R : Addr → Prop) (e : Expr) (ss : List Kd) (O : Store) (b : Bool) (O' : Store) : Prop := TJ X R e ss O fun b1 O1 => b1 = b ∧ O1 = O'
def AV (X : Cx) (R : Addr → Prop) (es : List Expr) (ss : List Kd) (O : Store) (ks : List Kd) (O' : Store) : Prop := AJ X R es ss O fun k1 O1 => k1 = ks ∧ O1 = O'
/-- two values to one, one value to one, some values to one -/
def OJ (X : Cx) (r : R2) (ka kb : Kd) (O : Store) (Φ : Kd → Store → Prop) : Prop :=
  ∀ G0 H0 G H σ ss x y, Sta G0 H0 G H σ ss O → KdAt G x ka → KdAt G y kb → ∀ Q : VK, Wt X G0 H0 G σ ss Φ Q → r x y H Q
def UJ (X : Cx) (r : V → Hp → VK → Prop) (ka : Kd) (O : Store) (Φ : Kd → Store → Prop) : Prop :=
  ∀ G0 H0 G H σ ss x, Sta G0 H0 G H σ ss O → KdAt G x ka → ∀ Q : VK, Wt X G0 H0 G σ ss Φ Q → r x H Q
def CJ (X : Cx) (r : List V → Hp → VK → Prop) (ks : List Kd) (O : Store) (Φ : Kd → Store → Prop) : Prop :=
  ∀ G0 H0 G H σ ss xs, Sta G0 H0 G H σ ss O → Kinds G xs ks → ∀ Q : VK, Wt X G0 H0 G σ ss Φ Q → r xs H Q
def MJ (X : Cx) (r : V → List V → Hp → VK → Prop) (k : Kd) (ks : List Kd) (O : Store) (Φ : Kd → Store → Prop) : Prop :=
  ∀ G0 H0 G H σ ss x xs, Sta G0 H0 G H σ ss O → KdAt G x k → Kinds G xs ks → ∀ Q : VK, Wt X G0 H0 G σ ss Φ Q → r x xs H Q
def isK (k : Kd) (O : Store) : Kd → Store → Prop := fun k1 O1 => k1 = k ∧ O1 = O
def isN (b : Ob) (O : Store) : Kd → Store → Prop := fun k1 O1 => ∃ p, k1 = .val (.ref p) ∧ O1 = (p, b) :: O

section
variable {X : Cx} {R : Addr → Prop} {e a b c : Expr} {es : List Expr} {ss : List Kd} {O O1 O2 O' : Store} {k ka kb : Kd} {ks : List Kd} {Φ Ψ : Kd → Store → Prop} {pos : Pos}
theorem Wt.imp {G0 H0 G : Hp} {σ : L2.St} {Q : VK} (h : Wt X G0 H0 G σ ss Φ Q) (i : ∀ k O, Ψ k O → Φ k O) : Wt X G0 H0 G σ ss Ψ Q := fun G' H' v k O' S e q p => h G' H' v k O' S e q (i _ _ p)
theorem Wt.ex {G0 H0 G G1 : Hp} {σ : L2.St} {Q : VK} (h : Wt X G0 H0 G σ ss Φ Q) (e : Ex G G1) : Wt X G0 H0 G1 σ ss Φ Q := fun G' H' v k O' S e1 q p => h G' H' v k O' S (e.trans e1) q p
theorem EJ.imp (h : EJ X R e ss O Φ) (i : ∀ k O, Φ k O → Ψ k O) : EJ X R e ss O Ψ := fun G0 H0 G H σ S L Q q => h G0 H0 G H σ S L Q (q.imp i)
theorem EJ.no (h : EJ X No e ss O Φ) : EJ X R e ss O Φ := fun G0 H0 G H σ S _ Q q => h G0 H0 G H σ S Lt.no Q q
theorem EV.to (h : EV X R e ss O k O') (i : Φ k O') : EJ X R e ss O Φ := EJ.imp h fun _ _ ⟨e1, e2⟩ => by subst e1 e2; exact i
theorem EV.no (h : EV X No e ss O k O') : EV X R e ss O k O' := EJ.no h
theorem OJ.imp {r : R2} (h : OJ X r ka kb O Φ) (i : ∀ k O, Φ k O → Ψ k O) : OJ X r ka kb O Ψ := fun G0 H0 G H σ ss x y S h1 h2 Q q => h G0 H0 G H σ ss x y S h1 h2 Q (q.imp i)

/-! ### names, constants -/
theorem ev_var (i : Nat) {x : Str} {k : Kd} (hk : ss[i]? = some k) (hu : k ≠ .und) (hN : X.N[i]? = some x) (hv : Vis X.env.scope x) (hd : (x == ("__debug__" : Str)) = false := by decide) (hcd : (x == ("__classdict__" : Str)) = false := by decide) : EV X R (.Name x pos) ss O k O :=
  fun G0 H0 G H σ S L Q q => wE_of (pe_var hN hv hd hcd) (by
    obtain ⟨v, h1, h2⟩ := S.slot hk hu
    exact ⟨v, h1, q G H v k O S (Ex.refl G) h2 ⟨rfl, rfl⟩⟩)
theorem ev_int {i : Int} {j : Nat} : EV X R (.Constant (.int i) j pos) ss O (.dat (.int i)) O := fun G0 H0 G H σ S L Q q => wE_of pe_int (q.d S (Ex.refl G) (DP.int i) ⟨rfl, rfl⟩)
theorem ev_bl {b : Bool} {j : Nat} : EV X R (.Constant (.bool b) j pos) ss O (.dat (.bool b)) O := fun G0 H0 G H σ S L Q q => wE_of pe_bl (q.d S (Ex.refl G) (DP.bl b) ⟨rfl, rfl⟩)
theorem ev_non {j : Nat} : EV X R (.Constant .none j pos) ss O (.dat .none) O := fun G0 H0 G H σ S L Q q => wE_of pe_non (q.d S (Ex.refl G) DP.non ⟨rfl, rfl⟩)
theorem ev_str {x : Str} {j : Nat} : EV X R (.Constant (.str x) j pos) ss O (.dat (.str x)) O := fun G0 H0 G H σ S L Q q => wE_of pe_str (q.d S (Ex.refl G) (DP.str x) ⟨rfl, rfl⟩)
/-- a written text, by another name of it -/
theorem ev_strE {x y : Str} {j : Nat} (h : x = y) : EV X R (.Constant (.str x) j pos) ss O (.dat (.str y)) O := by subst h; exact ev_str
/-- a module's constant -/
theorem ev_globS {x s : Str} (hg : Gl X x) (hm : ∃ t, X.mg x = some (.str s t)) (hd : (x == ("__debug__" : Str)) = false := by decide) : EV X R (.Name x pos) ss O (.dat (.str s)) O := fun G0 H0 G H σ S L Q q => by
  obtain ⟨t, hm⟩ := hm
  exact wE_of (pe_glob (v := .str s) hg hm ⟨_, rfl⟩ hd) (q.d S (Ex.refl G) (DP.str s) ⟨rfl, rfl⟩)
theorem ev_globI {x : Str} {i : Int} (hg : Gl X x) (hm : ∃ t, X.mg x = some (.int i t)) (hd : (x == ("__debug__" : Str)) = false := by decide) : EV X R (.Name x pos) ss O (.dat (.int i)) O := fun G0 H0 G H σ S L Q q => by
  obtain ⟨t, hm⟩ := hm
  exact wE_of (pe_glob (v := .int i) hg hm ⟨_, rfl⟩ hd) (q.d S (Ex.refl G) (DP.int i) ⟨rfl, rfl⟩)
/-- a def, a class, as a value -/
theorem ev_globR {x : Str} {f : Addr} (hg : Gl X x) (hm : X.mg x = some (.ref f)) (hd : (x == ("__debug__" : Str)) = false := by decide) : EV X R (.Name x pos) ss O (.val (.ref f)) O := fun G0 H0 G H σ S L Q q =>
  wE_of (pe_glob (v := .ref f) hg hm rfl hd) (q.v S (Ex.refl G) ⟨rfl, rfl⟩)
/-- a built-in class as a value -/
theorem ev_ty {x : Str} {n : String} (hg : Gl X x) (hm : X.mg x = none) (hv : bootBuiltins x = some (.type n)) (hn : x ≠ "__name__" := by decide) (hd : (x == ("__debug__" : Str)) = false := by decide) : EV X R (.Name x pos) ss O (.val (.ty n)) O := fun G0 H0 G H σ S L Q q =>
  wE_of (pe_bltn (v := .ty n) hg hm hv rfl hn hd) (q.v S (Ex.refl G) ⟨rfl, rfl⟩)

/-! ### operators -/
theorem ej_op {op : Operator} {r : R2} {Φa : Kd → Store → Prop} (ho : OpR X (binaryOp op) r) (ha : EJ X R a ss O Φa) (hb : ∀ k O1, Φa k O1 → EJ X R b ss O1 fun k' O2 => OJ X r k k' O2 Φ) : EJ X R (.BinOp a op b pos) ss O Φ :=
  fun G0 H0 G H σ S L Q q => wE_of (pe_op ho peW peW) (ha G0 H0 G H σ S L _ fun G1 H1 v k O1 S1 e1 r1 h1 =>
    hb k O1 h1 G0 H0 G1 H1 σ S1 L _ fun G2 H2 v2 k2 O2 S2 e2 r2 h2 => h2 G0 H0 G2 H2 σ ss v v2 S2 (kd_ex e2 r1) r2 Q (q.ex (e1.trans e2)))
theorem ev_op {op : Operator} {r : R2} (ho : OpR X (binaryOp op) r) (ha : EV X R a ss O ka O1) (hb : EV X R b ss O1 kb O2) (h : OJ X r ka kb O2 Φ) : EJ X R (.BinOp a op b pos) ss O Φ :=
  ej_op ho ha fun _ _ ⟨e1, e2⟩ => by subst e1 e2; exact hb.to h
theorem ev_un {op : UnaryOp} {r : V → Hp → VK → Prop} (ho : UnR X (unaryOp op) r) (ha : EV X R a ss O ka O1) (h : UJ X r ka O1 Φ) : EJ X R (.UnaryOp op a pos) ss O Φ :=
  fun G0 H0 G H σ S L Q q => wE_of (pe_un ho peW) (ha G0 H0 G H σ S L _ fun G1 H1 v k O1 S1 e1 r1 ⟨h1, h2⟩ => by subst h1 h2; exact h G0 H0 G1 H1 σ ss v S1 r1 Q (q.ex e1))
theorem ev_cmp {op : CmpOp} {r : R2} (ho : OpR X (compareOp op) r) (ha : EV X R a ss O ka O1) (hb : EV X R b ss O1 kb O2) (h : OJ X r ka kb O2 Φ) (hm : behindInMarks op b = false) : EJ X R (.Compare a [op] [b] pos) ss O Φ :=
  fun G0 H0 G H σ S L Q q => wE_of (pe_cmpR ho peW peW hm) (ha G0 H0 G H σ S L _ fun G1 H1 v k O1 S1 e1 r1 ⟨h1, h2⟩ => by
    subst h1 h2
    exact hb G0 H0 G1 H1 σ S1 L _ fun G2 H2 v2 k2 O2 S2 e2 r2 ⟨h3, h4⟩ => by subst h3 h4; exact h G0 H0 G2 H2 σ ss v v2 S2 (kd_ex e2 r1) r2 Q (q.ex (e1.trans e2)))
/-- an expression that gives a bool, as a test -/
theorem tv_val {b : Bool} (h : EV X R e ss O (.dat (.bool b)) O') (he : ∀ whole, isTrue e X.env whole = (do let v ← whole; standAt e.pos; holding [v] (truthy v)) := by intro _; rfl) : TV X R e ss O b O' :=
  fun G0 H0 G H σ S L Q q => wT_of (pt_val peW he) (h G0 H0 G H σ S L _ fun G1 H1 v k O1 S1 e1 r1 ⟨h1, h2⟩ => by
    subst h1 h2
    cases r1
    exact ⟨b, rfl, q G1 H1 b _ S1 e1 ⟨rfl, rfl⟩⟩)
theorem tv_cmp {op : CmpOp} {r : R2} {b' : Bool} (ho : OpR X (compareOp op) r) (ha : EV X R a ss O ka O1) (hb : EV X R b ss O1 kb O2) (h : OJ X r ka kb O2 (isK (.dat (.bool b')) O')) (hm : behindInMarks op b = false) : TV X R (.Compare a [op] [b] pos) ss O b' O' :=
  fun G0 H0 G H σ S L Q q => wT_of (pt_cmpR ho peW peW hm) (ha G0 H0 G H σ S L _ fun G1 H1 v k O1 S1 e1 r1 ⟨h1, h2⟩ => by
    subst h1 h2
    exact hb G0 H0 G1 H1 σ S1 L _ fun G2 H2 v2 k2 O2 S2 e2 r2 ⟨h3, h4⟩ => by
      subst h3 h4
      exact h G0 H0 G2 H2 σ ss v v2 S2 (kd_ex e2 r1) r2 _ fun G3 H3 v3 k3 O3 S3 e3 r3 ⟨h5, h6⟩ => by
        subst h5 h6
        cases r3
        exact ⟨b', rfl, q G3 H3 b' _ S3 ((e1.trans e2).trans e3) ⟨rfl, rfl⟩⟩)
theorem tv_and1 {b' : Bool} (h : TV X R a ss O b' O') : TV X R (.BoolOp .And [a] pos) ss O b' O' := fun G0 H0 G H σ S L Q q => wT_of (pw_and1 ptW).pt (h G0 H0 G H σ S L Q q)
theorem tv_or1 {b' : Bool} (h : TV X R a ss O b' O') : TV X R (.BoolOp .Or [a] pos) ss O b' O' := fun G0 H0 G H σ S L Q q => wT_of (pw_or1 ptW).pt (h G0 H0 G H σ S L Q q)
structure WW_ (X : Cx) (e : Expr) (σ : L2.St) (H : Hp) (Q : Bool → Hp → Prop) : Prop where
  run : ∀ whole pins s, Inv X pins σ H s → wpAny (model X.prog X.w) X.A (isTrue e X.env whole) (TP X pins σ Q) X.xe s
def wW (X : Cx) (e : Expr) : TT := WW_ X e
theorem pwW {X : Cx} {e : Expr} : PW X e (wW X e) := ⟨fun wh pins s _ _ _ I h => h.run wh pins s I⟩
/-- a test whatever its whole is (and, or) -/
def WV (X : Cx) (R : Addr → Prop) (e : Expr) (ss : List Kd) (O : Store) (b : Bool) (O' : Store) : Prop :=
  ∀ G0 H0 G H σ, Sta G0 H0 G H σ ss O → Lt X R H0 → ∀ Q : Bool → Hp → Prop, (∀ G' H', Sta G0 H0 G' H' σ ss O' → Ex G G' → Q b H') → wW X e σ H Q
theorem WV.tv {b' : Bool} (h : WV X R e ss O b' O') : TV X R e ss O b' O' := fun G0 H0 G H σ S L Q q => wT_of pwW.pt (h G0 H0 G H σ S L Q fun G' H' S' e' => q G' H' b' O' S' e' ⟨rfl, rfl⟩)
theorem wv_and1 {b' : Bool} (h : TV X R a ss O b' O') : WV X R (.BoolOp .And [a] pos) ss O b' O' := fun G0 H0 G H σ S L Q q => ⟨fun wh pins s I => (pw_and1 ptW).run wh pins s σ H Q I (h G0 H0 G H σ S L Q fun G' H' b O1 S' e' ⟨h1, h2⟩ => by subst h1 h2; exact q G' H' S' e')⟩
theorem wv_or1 {b' : Bool} (h : TV X R a ss O b' O') : WV X R (.BoolOp .Or [a] pos) ss O b' O' := fun G0 H0 G H σ S L Q q => ⟨fun wh pins s I => (pw_or1 ptW).run wh pins s σ H Q I (h G0 H0 G H σ S L Q fun G' H' b O1 S' e' ⟨h1, h2⟩ => by subst h1 h2; exact q G' H' S' e')⟩
/-- the second is asked where the first holds; O' the store behind either way -/
theorem wv_and {b1 b2 : Bool} (h : TV X R a ss O b1 O1) (h2 : b1 = true → WV X R (.BoolOp .And (b :: es) pos) ss O1 b2 O') (h3 : b1 = false → O' = O1) : WV X R (.BoolOp .And (a :: b :: es) pos) ss O (b1 && b2) O' :=
  fun G0 H0 G H σ S L Q q => ⟨fun wh pins s I => (pw_and ptW pwW).run wh pins s σ H Q I (h G0 H0 G H σ S L _ fun G1 H1 c O1 S1 e1 ⟨h4, h5⟩ => by
    subst h4 h5
    cases c with
    | true =>
      show wW X _ σ H1 Q
      exact h2 rfl G0 H0 G1 H1 σ S1 L Q fun G' H' S' e' => q G' H' S' (e1.trans e')
    | false =>
      show Q false H1
      have := h3 rfl
      subst this
      exact q G1 H1 S1 e1)⟩
theorem wv_or {b1 b2 : Bool} (h : TV X R a ss O b1 O1) (h2 : b1 = false → WV X R (.BoolOp .Or (b :: es) pos) ss O1 b2 O') (h3 : b1 = true → O' = O1) : WV X R (.BoolOp .Or (a :: b :: es) pos) ss O (b1 || b2) O' :=
  fun G0 H0 G H σ S L Q q => ⟨fun wh pins s I => (pw_or ptW pwW).run wh pins s σ H Q I (h G0 H0 G H σ S L _ fun G1 H1 c O1 S1 e1 ⟨h4, h5⟩ => by
    subst h4 h5
    cases c with
    | false =>
      show wW X _ σ H1 Q
      exact h2 rfl G0 H0 G1 H1 σ S1 L Q fun G' H' S' e' => q G' H' S' (e1.trans e')
    | true =>
      show Q true H1
      have := h3 rfl
      subst this
      exact q G1 H1 S1 e1)⟩
theorem tv_not {b' : Bool} (h : TV X R a ss O b' O') : TV X R (.UnaryOp .Not a pos) ss O (!b') O' := fun G0 H0 G H σ S L Q q => wT_of (pt_not ptW) (h G0 H0 G H σ S L _ fun G' H' b O1 S' e' ⟨h1, h2⟩ => by subst h1 h2; exact q G' H' _ _ S' e' ⟨rfl, rfl⟩)
/-- and, or, not as values -/
theorem ev_one {op : BoolOp} (h : EV X R a ss O k O') : EV X R (.BoolOp op [a] pos) ss O k O' := fun G0 H0 G H σ S L Q q => wE_of (pe_one peW) (h G0 H0 G H σ S L Q q)
theorem ev_and {b1 b2 : Bool} (h : EV X R a ss O (.dat (.bool b1)) O1) (h2 : b1 = true → EV X R (.BoolOp .And (b :: es) pos) ss O1 (.dat (.bool b2)) O') (h3 : b1 = false → O' = O1) : EV X R (.BoolOp .And (a :: b :: es) pos) ss O (.dat (.bool (b1 && b2))) O' :=
  fun G0 H0 G H σ S L Q q => wE_of (pe_and peW peW) (h G0 H0 G H σ S L _ fun G1 H1 v k O1 S1 e1 r1 ⟨h4, h5⟩ => by
    subst h4 h5
    cases r1
    refine ⟨b1, rfl, ?_⟩
    cases b1 with
    | true =>
      show wE X _ σ H1 Q
      exact h2 rfl G0 H0 G1 H1 σ S1 L Q (q.ex e1)
    | false =>
      show Q (.bl false) H1
      have := h3 rfl
      subst this
      exact q.d S1 e1 (DP.bl false) ⟨rfl, rfl⟩)
theorem ev_or {b1 b2 : Bool} (h : EV X R a ss O (.dat (.bool b1)) O1) (h2 : b1 = false → EV X R (.BoolOp .Or (b :: es) pos) ss O1 (.dat (.bool b2)) O') (h3 : b1 = true → O' = O1) : EV X R (.BoolOp .Or (a :: b :: es) pos) ss O (.dat (.bool (b1 || b2))) O' :=
  fun G0 H0 G H σ S L Q q => wE_of (pe_or peW peW) (h G0 H0 G H σ S L _ fun G1 H1 v k O1 S1 e1 r1 ⟨h4, h5⟩ => by
    subst h4 h5
    cases r1
    refine ⟨b1, rfl, ?_⟩
    cases b1 with
    | false =>
      show wE X _ σ H1 Q
      exact h2 rfl G0 H0 G1 H1 σ S1 L Q (q.ex e1)
    | true =>
      show Q (.bl true) H1
      have := h3 rfl
      subst this
      exact q.d S1 e1 (DP.bl true) ⟨rfl, rfl⟩)
theorem ev_not {b1 : Bool} (h : EV X R a ss O (.dat (.bool b1)) O1) : EV X R (.UnaryOp .Not a pos) ss O (.dat (.bool (!b1))) O1 :=
  fun G0 H0 G H σ S L Q q => wE_of (pe_not peW) (h G0 H0 G H σ S L _ fun G1 H1 v k O1 S1 e1 r1 ⟨h4, h5⟩ => by
    subst h4 h5
    cases r1
    exact ⟨b1, rfl, q.d S1 e1 (DP.bl _) ⟨rfl, rfl⟩⟩)
/-- a if t else b -/
theorem ej_if {b' : Bool} (h : TV X R c ss O b' O1) (h1 : b' = true → EJ X R a ss O1 Φ) (h2 : b' = false → EJ X R b ss O1 Φ) : EJ X R (.IfExp c a b pos) ss O Φ :=
  fun G0 H0 G H σ S L Q q => wE_of (pe_ifExp ptW peW peW) (h G0 H0 G H σ S L _ fun G1 H1 v O1 S1 e1 ⟨h4, h5⟩ => by
    subst h4 h5
    cases v with
    | true => exact h1 rfl G0 H0 G1 H1 σ S1 L Q (q.ex e1)
    | false => exact h2 rfl G0 H0 G1 H1 σ S1 L Q (q.ex e1))

/-! ### argument lists, displays -/
theorem aj_nil {Φ : List Kd → Store → Prop} (h : Φ [] O) : AJ X R [] ss O Φ := fun G0 H0 G H σ S L Q q => wA_of pa_nil (q G H [] [] O S (Ex.refl G) .nil h)
theorem aj_cons {Φe : Kd → Store → Prop} {Φ : List Kd → Store → Prop} (h : EJ X R e ss O Φe) (h2 : ∀ k O1, Φe k O1 → AJ X R es ss O1 fun ks O2 => Φ (k :: ks) O2) (hs : starEach (e :: es) X.env = (false, eval e X.env) :: starEach es X.env := by exact star_ne rfl) : AJ X R (e :: es) ss O Φ :=
  fun G0 H0 G H σ S L Q q => wA_of (pa_cons peW paW hs) (h G0 H0 G H σ S L _ fun G1 H1 v k O1 S1 e1 r1 p1 => h2 k O1 p1 G0 H0 G1 H1 σ S1 L _ fun G2 H2 vs ks O2 S2 e2 r2 p2 => q G2 H2 _ _ O2 S2 (e1.trans e2) (.cons (kd_ex e2 r1) r2) p2)
theorem av_nil : AV X R [] ss O [] O := aj_nil ⟨rfl, rfl⟩
theorem AV.to {Φ : List Kd → Store → Prop} (h : AV X R es ss O ks O') (i : Φ ks O') : AJ X R es ss O Φ := fun G0 H0 G H σ S L Q q => h G0 H0 G H σ S L Q fun G' H' vs k1 O1 S1 e1 r1 ⟨h1, h2⟩ => by subst h1 h2; exact q G' H' vs _ _ S1 e1 r1 i
theorem av_cons (h : EV X R e ss O k O1) (h2 : AV X R es ss O1 ks O') (hs : starEach (e :: es) X.env = (false, eval e X.env) :: starEach es X.env := by exact star_ne rfl) : AV X R (e :: es) ss O (k :: ks) O' :=
  aj_cons h (fun _ _ ⟨e1, e2⟩ => by subst e1 e2; exact h2.to ⟨rfl, rfl⟩) hs
theorem kinds_dp {G : Hp} : ∀ {vs : List V} {ds : List D}, Kinds G vs (ds.map .dat) → DPs G vs ds
  | _, [], h => by cases h; exact .nil
  | _, d :: ds, h => by
    cases h with
    | cons r t => exact .cons r (kinds_dp t)
/-- (a, b, ..) -/
theorem ev_tup {ds : List D} {x1 : Nat} (h : AV X R es ss O ks O') (hk : ks = ds.map .dat) (hl : ds.length ≤ sizeLine) : EV X R (.Tuple es x1 pos) ss O (.dat (.tuple ds)) O' :=
  fun G0 H0 G H σ S L Q q => wE_of (pe_tup paW) (h G0 H0 G H σ S L _ fun G1 H1 vs k1 O1 S1 e1 r1 ⟨h1, h2⟩ => by
    subst h1 h2 hk
    have r := kinds_dp r1
    refine ⟨by rw [dpAll_len r]; exact hl, fun p hp => ?_⟩
    have eg : Ex G1 (upd G1 p (.tup vs)) := Ex.new (S1.free hp)
    exact q.d (S1.data hp (.tup vs)) (e1.trans eg) (DP.tup upd_same (dpAll_ex eg r)) ⟨rfl, rfl⟩)
/-- [a, b, ..], a new owned list -/
theorem en_lst {ds : List D} (h : AV X R es ss O ks O') (hk : ks = ds.map .dat) (hl : ds.length ≤ sizeLine) : EN X R (.List es pos) ss O (.ol ds) O' :=
  fun G0 H0 G H σ S L Q q => wE_of (pe_lst paW) (h G0 H0 G H σ S L _ fun G1 H1 vs k1 O1 S1 e1 r1 ⟨h1, h2⟩ => by
    subst h1 h2 hk
    have r := kinds_dp r1
    refine ⟨by rw [dpAll_len r]; exact hl, fun p hp => ?_⟩
    exact q.v (S1.new hp (b := .ol ds) ⟨vs, upd_same, r⟩) e1 ⟨p, rfl, rfl⟩)
/-- {} -/
theorem en_dict : EN X R (.Dict [] [] pos) ss O (.od []) O := fun G0 H0 G H σ S L Q q => wE_of pe_dnewK fun p hp => q.v (S.new hp (b := .od []) ⟨[], upd_same, .nil⟩) (Ex.refl G) ⟨p, rfl, rfl⟩
theorem wE_lock {X : Cx} {e : Expr} {σ : L2.St} {H : Hp} {Q : VK} (h : wE X e σ H fun v H1 => ∃ d u, H1 d = some u ∧ Mut (some u) ∧ ∀ od, Q v (upd H1 d (.frz od u))) : wE X e σ H Q := ⟨fun pins s I => thn (h.run pins s I) fun v s1 ⟨x, H1, I1, r, d, u, hd, mu, q⟩ => by
  obtain ⟨od, I2⟩ := I1.lock hd mu
  exact ⟨x, _, I2, r, q od⟩⟩
/-- an owned dict taken as plain data from here on -/
theorem EV.frzD {j : Nat} {p : Addr} {kvs : List (Str × D)} (h : EV X R e ss O (.val (.ref p)) O') (hj : O'[j]? = some (p, .od kvs)) : EV X R e ss O (.dat (dK kvs)) (O'.eraseIdx j) := fun G0 H0 G H σ S L Q q => wE_lock (h G0 H0 G H σ S L _ fun G1 H1 v k O1 S1 e1 r1 ⟨h1, h2⟩ => by
  subst h1 h2
  obtain ⟨ws, hv, f⟩ := S1.freezeD hj
  refine ⟨p, _, hv, trivial, fun od => ?_⟩
  obtain ⟨S', e', d'⟩ := f od
  have : v = .ref p := r1
  subst this
  exact q.d S' (e1.trans e') d' ⟨rfl, rfl⟩)
theorem EN.frzD {kvs : List (Str × D)} (h : EN X R e ss O (.od kvs) O') : EV X R e ss O (.dat (dK kvs)) O' := fun G0 H0 G H σ S L Q q => wE_lock (h G0 H0 G H σ S L _ fun G1 H1 v k O1 S1 e1 r1 ⟨p, h1, h2⟩ => by
  subst h1 h2
  obtain ⟨ws, hv, f⟩ := S1.freezeD (i := 0) rfl
  refine ⟨p, _, hv, trivial, fun od => ?_⟩
  obtain ⟨S', e', d'⟩ := f od
  have : v = .ref p := r1
  subst this
  exact q.d S' (e1.trans e') d' ⟨rfl, rfl⟩)
/-- an owned list taken as plain data from here on -/
theorem EV.frzL {j : Nat} {p : Addr} {ds : List D} (h : EV X R e ss O (.val (.ref p)) O') (hj : O'[j]? = some (p, .ol ds)) : EV X R e ss O (.dat (.list ds)) (O'.eraseIdx j) := fun G0 H0 G H σ S L Q q => h G0 H0 G H σ S L Q fun G1 H1 v k O1 S1 e1 r1 ⟨h1, h2⟩ => by
  subst h1 h2
  obtain ⟨G', S', e', d'⟩ := S1.freeze hj
  have : v = .ref p := r1
  subst this
  exact q.d S' (e1.trans e') d' ⟨rfl, rfl⟩
/-- a new list taken as plain data -/
theorem EN.frz {ds : List D} (h : EN X R e ss O (.ol ds) O') : EV X R e ss O (.dat (.list ds)) O' := fun G0 H0 G H σ S L Q q => h G0 H0 G H σ S L Q fun G1 H1 v k O1 S1 e1 r1 ⟨p, h1, h2⟩ => by
  subst h1 h2
  obtain ⟨G', S', e', d'⟩ := S1.freeze (i := 0) rfl
  have : v = .ref p := r1
  subst this
  exact q.d S' (e1.trans e') d' ⟨rfl, rfl⟩
end
end Dl
namespace Dl
open PySem PySem.Spec PyProof.Rows L2
open Evl (Ex)

/-! ### statements -/
structure DE where
  nx : List Kd → Store → Prop
  rt : Kd → Store → Prop
  bk : List Kd → Store → Prop := fun _ _ => False
  ct : List Kd → Store → Prop := fun _ _ => False
structure Sat (X : Cx) (G0 H0 G : Hp) (D : DE) (E : Ends) : Prop where
  nx : ∀ G' H' σ' ss' O', Sta G0 H0 G' H' σ' ss' O' → Ex G G' → D.nx ss' O' → E.nx σ' H'
  rt : ∀ G' H' σ' ss' v k O', Sta G0 H0 G' H' σ' ss' O' → Ex G G' → KdAt G' v k → D.rt k O' → E.rt v H'
  bk : ∀ G' H' σ' ss' O', Sta G0 H0 G' H' σ' ss' O' → Ex G G' → D.bk ss' O' → E.bk σ' H'
  ct : ∀ G' H' σ' ss' O', Sta G0 H0 G' H' σ' ss' O' → Ex G G' → D.ct ss' O' → E.ct σ' H'
theorem Sat.ex {X : Cx} {G0 H0 G G1 : Hp} {D : DE} {E : Ends} (h : Sat X G0 H0 G D E) (e : Ex G G1) : Sat X G0 H0 G1 D E :=
  ⟨fun G' H' σ' ss' O' S e' => h.nx G' H' σ' ss' O' S (e.trans e'), fun G' H' σ' ss' v k O' S e' => h.rt G' H' σ' ss' v k O' S (e.trans e'), fun G' H' σ' ss' O' S e' => h.bk G' H' σ' ss' O' S (e.trans e'), fun G' H' σ' ss' O' S e' => h.ct G' H' σ' ss' O' S (e.trans e')⟩
theorem Sat.imp {X : Cx} {G0 H0 G : Hp} {D D' : DE} {E : Ends} (h : Sat X G0 H0 G D E) (a : ∀ ss O, D'.nx ss O → D.nx ss O) (b : ∀ k O, D'.rt k O → D.rt k O) (c : ∀ ss O, D'.bk ss O → D.bk ss O) (d : ∀ ss O, D'.ct ss O → D.ct ss O) : Sat X G0 H0 G D' E :=
  ⟨fun G' H' σ' ss' O' S e' p => h.nx G' H' σ' ss' O' S e' (a _ _ p), fun G' H' σ' ss' v k O' S e' r p => h.rt G' H' σ' ss' v k O' S e' r (b _ _ p), fun G' H' σ' ss' O' S e' p => h.bk G' H' σ' ss' O' S e' (c _ _ p), fun G' H' σ' ss' O' S e' p => h.ct G' H' σ' ss' O' S e' (d _ _ p)⟩
def SJ (X : Cx) (R : Addr → Prop) (sts : List Stmt) (ss : List Kd) (O : Store) (D : DE) : Prop :=
  ∀ G0 H0 G H σ, Sta G0 H0 G H σ ss O → Lt X R H0 → ∀ E : Ends, Sat X G0 H0 G D E → wSs X sts E σ H
def S1 (X : Cx) (R : Addr → Prop) (st : Stmt) (ss : List Kd) (O : Store) (D : DE) : Prop :=
  ∀ G0 H0 G H σ, Sta G0 H0 G H σ ss O → Lt X R H0 → ∀ E : Ends, Sat X G0 H0 G D E → wS X st E σ H
section
variable {X : Cx} {R : Addr → Prop} {e a b c : Expr} {es : List Expr} {ss : List Kd} {O O1 O2 O' : Store} {k ka kb : Kd} {ks : List Kd} {Φ Ψ : Kd → Store → Prop} {pos : Pos} {st : Stmt} {sts rest body : List Stmt} {D D' : DE}
theorem SJ.imp (h : SJ X R sts ss O D) (a : ∀ ss O, D.nx ss O → D'.nx ss O) (b : ∀ k O, D.rt k O → D'.rt k O) (c : ∀ ss O, D.bk ss O → D'.bk ss O) (d : ∀ ss O, D.ct ss O → D'.ct ss O) : SJ X R sts ss O D' :=
  fun G0 H0 G H σ S L E s => h G0 H0 G H σ S L E (s.imp a b c d)
theorem S1.imp (h : S1 X R st ss O D) (a : ∀ ss O, D.nx ss O → D'.nx ss O) (b : ∀ k O, D.rt k O → D'.rt k O) (c : ∀ ss O, D.bk ss O → D'.bk ss O) (d : ∀ ss O, D.ct ss O → D'.ct ss O) : S1 X R st ss O D' :=
  fun G0 H0 G H σ S L E s => h G0 H0 G H σ S L E (s.imp a b c d)
theorem sj_nil (h : D.nx ss O) : SJ X R [] ss O D := fun G0 H0 G H σ S L E s => wSs_of pss_nil (s.nx G H σ ss O S (Ex.refl G) h)
theorem sj_cons (h : S1 X R st ss O { D with nx := fun ss' O' => SJ X R rest ss' O' D }) : SJ X R (st :: rest) ss O D := fun G0 H0 G H σ S L E s =>
  wSs_of (pss_cons psW pssW) (h G0 H0 G H σ S L { E with nx := wSs X rest E } ⟨fun G' H' σ' ss' O' S' e' p => p G0 H0 G' H' σ' S' L E (s.ex e'), s.rt, s.bk, s.ct⟩)
theorem sj_one (h : S1 X R st ss O D) : SJ X R [st] ss O D := fun G0 H0 G H σ S L E s => wSs_of (pss_one psW) (h G0 H0 G H σ S L E s)
/-- less is known, fewer objects -/
theorem SJ.less {O' : Store} (h : SJ X R sts ss O' D) (hs : ∀ q ∈ O', q ∈ O) (nd : (O.map (·.1)).Nodup → (O'.map (·.1)).Nodup) : SJ X R sts ss O D := fun G0 H0 G H σ S L E s => h G0 H0 G H σ (S.less hs (nd S.nd)) L E s
theorem S1.less {O' : Store} (h : S1 X R st ss O' D) (hs : ∀ q ∈ O', q ∈ O) (nd : (O.map (·.1)).Nodup → (O'.map (·.1)).Nodup) : S1 X R st ss O D := fun G0 H0 G H σ S L E s => h G0 H0 G H σ (S.less hs (nd S.nd)) L E s
/-- the store's first object is dropped -/
theorem SJ.drop1 {q : Addr × Ob} (h : SJ X R sts ss O D) : SJ X R sts ss (q :: O) D := h.less (fun _ h => List.mem_cons_of_mem _ h) fun h => (List.nodup_cons.mp h).2
theorem SJ.nd (h : (O.map (·.1)).Nodup → SJ X R sts ss O D) : SJ X R sts ss O D := fun G0 H0 G H σ S L E s => h S.nd G0 H0 G H σ S L E s

/-- the owned list in slot i is plain data from here on -/
theorem sj_frzL (i j : Nat) {p : Addr} {ds : List PyData} (hi : ss[i]? = some (.val (.ref p))) (hj : O[j]? = some (p, .ol ds)) (h : SJ X R sts (ss.set i (.dat (.list ds))) (O.eraseIdx j) D) : SJ X R sts ss O D := fun G0 H0 G H σ S L E s => by
  obtain ⟨G', S', e', d'⟩ := S.freeze hj
  obtain ⟨v, hv, r⟩ := S.slot hi (by simp)
  have : v = .ref p := r
  subst this
  have S2 := S'.set i (k := .dat (.list ds)) d'
  have e : σ.set i (some (.ref p)) = σ := by
    obtain ⟨l, e⟩ := List.getElem?_eq_some_iff.mp hv
    rw [← e]
    exact List.set_getElem_self l
  rw [e] at S2
  exact h G0 H0 G' H σ S2 L E (s.ex e')
/-- the owned dict in slot i is plain data from here on -/
theorem sj_frzD (i j : Nat) {p : Addr} {kvs : List (Str × PyData)} (hi : ss[i]? = some (.val (.ref p))) (hj : O[j]? = some (p, .od kvs)) (h : SJ X R sts (ss.set i (.dat (dK kvs))) (O.eraseIdx j) D) : SJ X R sts ss O D := fun G0 H0 G H σ S L E s => ⟨fun pins st I => by
  obtain ⟨ws, hv, f⟩ := S.freezeD hj
  obtain ⟨od, I2⟩ := I.lock hv trivial
  obtain ⟨S', e', d'⟩ := f od
  obtain ⟨v, hv2, r⟩ := S.slot hi (by simp)
  have : v = .ref p := r
  subst this
  have S2 := S'.set i (k := .dat (dK kvs)) d'
  have e : σ.set i (some (.ref p)) = σ := by
    obtain ⟨l, e⟩ := List.getElem?_eq_some_iff.mp hv2
    rw [← e]
    exact List.set_getElem_self l
  rw [e] at S2
  exact (h G0 H0 _ _ σ S2 L E (s.ex e')).run pins st I2⟩
/-- x = e -/
theorem s1_setJ (i : Nat) {x : Str} {pos' : Pos} (he : EJ X R e ss O fun k O' => D.nx (ss.set i k) O') (hN : X.N.Nodup) (hi : X.N[i]? = some x) (hx : Loc X.env.scope x) (hs : swapsWith e (some (.Name x pos')) pos.line X.env = pure false := by rfl) (hf : X.fn x = true ∨ X.env.scope.names.lookup x = some .local := by first | exact .inl rfl | exact .inr rfl | assumption) :
    S1 X R (.Assign [.Name x pos'] e pos) ss O D := fun G0 H0 G H σ S L E s =>
  wS_of (ps_set hN hi hx peW hs hf) (he G0 H0 G H σ S L _ fun G1 H1 v k O1 S1 e1 r1 p1 => s.nx G1 H1 _ _ O1 (S1.set i r1) e1 p1)
theorem s1_set (i : Nat) {x : Str} {pos' : Pos} (he : EV X R e ss O k O') (h : D.nx (ss.set i k) O') (hN : X.N.Nodup) (hi : X.N[i]? = some x) (hx : Loc X.env.scope x) (hs : swapsWith e (some (.Name x pos')) pos.line X.env = pure false := by rfl) (hf : X.fn x = true ∨ X.env.scope.names.lookup x = some .local := by first | exact .inl rfl | exact .inr rfl | assumption) :
    S1 X R (.Assign [.Name x pos'] e pos) ss O D := s1_setJ i (he.to h) hN hi hx hs hf
theorem s1_setN (i : Nat) {x : Str} {pos' : Pos} {b : Ob} (he : EN X R e ss O b O') (h : ∀ p, D.nx (ss.set i (.val (.ref p))) ((p, b) :: O')) (hN : X.N.Nodup) (hi : X.N[i]? = some x) (hx : Loc X.env.scope x) (hs : swapsWith e (some (.Name x pos')) pos.line X.env = pure false := by rfl) (hf : X.fn x = true ∨ X.env.scope.names.lookup x = some .local := by first | exact .inl rfl | exact .inr rfl | assumption) :
    S1 X R (.Assign [.Name x pos'] e pos) ss O D := s1_setJ i (EJ.imp he fun k O1 ⟨p, e1, e2⟩ => by subst e1 e2; exact h p) hN hi hx hs hf
/-- e as a statement -/
theorem s1_expr (he : EJ X R e ss O fun _ O' => D.nx ss O') (hs : swapsWith e none pos.line X.env = pure false := by rfl) : S1 X R (.Expr e pos) ss O D := fun G0 H0 G H σ S L E s =>
  wS_of (ps_expr peW hs) (he G0 H0 G H σ S L _ fun G1 H1 v k O1 S1 e1 r1 p1 => s.nx G1 H1 _ _ O1 S1 e1 p1)
theorem s1_ret (he : EJ X R e ss O D.rt) : S1 X R (.Return (some e) pos) ss O D := fun G0 H0 G H σ S L E s =>
  wS_of (ps_ret peW) (he G0 H0 G H σ S L _ fun G1 H1 v k O1 S1 e1 r1 p1 => s.rt G1 H1 _ _ v k O1 S1 e1 r1 p1)
theorem s1_retN (h : D.rt (.dat .none) O) : S1 X R (.Return none pos) ss O D := fun G0 H0 G H σ S L E s => wS_of ps_retN (s.rt G H σ ss .non (.dat .none) O S (Ex.refl G) DP.non h)
theorem s1_pass (h : D.nx ss O) : S1 X R (.Pass pos) ss O D := fun G0 H0 G H σ S L E s => wS_of ps_pass (s.nx G H σ ss O S (Ex.refl G) h)
theorem s1_doc {x : Str} {j : Nat} {pos' : Pos} (h : D.nx ss O) : S1 X R (.Expr (.Constant (.str x) j pos) pos') ss O D := fun G0 H0 G H σ S L E s => wS_of ps_doc (s.nx G H σ ss O S (Ex.refl G) h)
theorem s1_if {b' : Bool} {body els : List Stmt} (hc : TV X R c ss O b' O1) (h1 : b' = true → SJ X R body ss O1 D) (h2 : b' = false → SJ X R els ss O1 D) : S1 X R (.If c body els pos) ss O D := fun G0 H0 G H σ S L E s =>
  wS_of (ps_if ptW pssW pssW) (hc G0 H0 G H σ S L _ fun G1 H1 v O2 S1 e1 ⟨h3, h4⟩ => by
    subst h3 h4
    cases v with
    | true => exact h1 rfl G0 H0 G1 H1 σ S1 L E (s.ex e1)
    | false => exact h2 rfl G0 H0 G1 H1 σ S1 L E (s.ex e1))

/-! ### the call of a def -/
def mask (H : Hp) (B : Store) : Hp := fun a => if a ∈ B.map (·.1) then none else H a
theorem mask_in {H : Hp} {B : Store} {a : Addr} (h : a ∈ B.map (·.1)) : mask H B a = none := if_pos h
theorem mask_out {H : Hp} {B : Store} {a : Addr} (h : a ∉ B.map (·.1)) : mask H B a = H a := if_neg h
theorem mask_le {H : Hp} {B : Store} : Ex (mask H B) H := fun a o e => by
  by_cases h : a ∈ B.map (·.1)
  · rw [mask_in h] at e; cases e
  · rw [mask_out h] at e; exact e
/-- a promise over data: kinds of the arguments, objects lent, what is wanted of the value and the objects behind, the classes that may be raised -/
abbrev DSp := List Kd → Store → (Kd → Store → Prop) → (Addr → Prop) → Prop
def toSp (T : DSp) : Sp := fun vs H Q E => ∃ (G : Hp) (ks : List Kd) (B : Store) (k : Kd → Store → Prop) (R : Addr → Prop),
  Kinds G vs ks ∧ Ex G H ∧ (B.map (·.1)).Nodup ∧ (∀ q ∈ B, ObAt G H q.1 q.2 ∧ G q.1 = none) ∧ T ks B k R ∧
  (∀ G' H' v r B', Sta G (mask H B) G' H' [] [] B' → KdAt G' v r → k r B' → Q v H') ∧ ∀ C, R C → ∀ H', Ex (mask H B) H' → E (.ref C) none H'
abbrev FD (P : Program) (w : World) (K : PySem.W.Frag) (mg : Str → Option Value) (base : Heap) (n : Nat) (f : Addr) (fd : FuncData) (ps : List Str) (T : DSp) : Prop := FnOk P w K mg base (L2.CX P w) n f fd ps (toSp T)
/-- at a return: what is handed back of the objects -/
def fin (k : Kd → Store → Prop) : Kd → Store → Prop := fun r O' => ∃ O'' : Store, (∀ q ∈ O'', q ∈ O') ∧ ((O'.map (·.1)).Nodup → (O''.map (·.1)).Nodup) ∧ k r O''
theorem fin0 {k : Kd → Store → Prop} {r : Kd} {O' : Store} (h : k r []) : fin k r O' := ⟨[], fun _ z => (nomatch z), fun _ => List.nodup_nil, h⟩
theorem fin1 {k : Kd → Store → Prop} {r : Kd} {O' : Store} {q : Addr × Ob} (hq : q ∈ O') (h : k r [q]) : fin k r O' := ⟨[q], fun _ z => by rw [List.mem_singleton.mp z]; exact hq, fun _ => by simp, h⟩
theorem finA {k : Kd → Store → Prop} {r : Kd} {O' : Store} (h : k r O') : fin k r O' := ⟨O', fun _ z => z, fun z => z, h⟩
theorem finS {k : Kd → Store → Prop} {r : Kd} {O' O'' : Store} (s : O''.Sublist O') (h : k r O'') : fin k r O' := ⟨O'', fun _ z => s.subset z, fun z => z.sublist (s.map _), h⟩

theorem slots_start {G : Hp} : ∀ {vs : List V} {ks : List Kd}, Kinds G vs ks → Slots G (vs.map some) ks
  | _, _, .nil => .nil
  | _, _, .cons (b := k) r t => .cons (by cases k <;> first | trivial | exact r) (slots_start t)
theorem slots_und {G : Hp} : ∀ n : Nat, Slots G (List.replicate n none) (List.replicate n .und)
  | 0 => .nil
  | n + 1 => .cons trivial (slots_und n)
/-- the kinds by slot at the entry -/
def startK (N : List Str) (ks : List Kd) : List Kd := ks ++ List.replicate (N.length - ks.length) .und

section
variable {P : Program} {w : World} {K : PySem.W.Frag} {mg : Str → Option Value} {base : Heap}
/-- A def by its body -/
theorem fd_ok {x qual : Str} {st : Stmt} {f : Addr} {fd : FuncData} {N ps : List Str} {n : Nat} {T : DSp} (F : Fun K x qual st f fd) (S : FnScope N ps (defScope st)) (len : ∀ ks B k R, T ks B k R → ks.length = ps.length)
    (hbody : ∀ (cdv : Value) (A : Around) (outer : List Env) (s : Shared) (H : Hp) (E : XK) (ks : List Kd) (B : Store) (k : Kd → Store → Prop) (R : Addr → Prop), Room n (A.deeper (envOfC qual (defScope st) s.heap.objs.size f cdv)) → T ks B k R →
      SJ (cxOf (L2.CX P w) P w K mg base N qual (defScope st) f cdv A outer s H E) R (defBody st) (startK N ks) B { nx := fun _ O' => fin k (.dat .none) O', rt := fin k }) :
    FD P w K mg base (n + 1) f fd ps T := by
  refine F.okX S (fun vs H Q E h => ?_) (fun cdv A outer s H vs Q E hr h => ⟨wSs _ _, pssW, ?_⟩)
  · obtain ⟨G, ks, B, k, R, hk, _, _, _, hT, _⟩ := h
    exact (paired_len hk).trans (len _ _ _ _ hT)
  · obtain ⟨G, ks, B, k, R, hk, hg, hn, hb, hT, hq, hE⟩ := h
    have hS := hbody cdv A outer s H E ks B k R hr hT
    have ok : Sta G (mask H B) G H (L2.start N vs) (startK N ks) B := by
      refine ⟨Ex.refl G, mask_le, hg, fun a o e => .inl e, ?_, hn, fun q hq => ⟨(hb q hq).1, (hb q hq).2, mask_in (List.mem_map_of_mem hq)⟩⟩
      unfold L2.start startK
      rw [paired_len hk]
      exact paired_app (slots_start hk) (slots_und _)
    have tk : Takes (cxOf (L2.CX P w) P w K mg base N qual (defScope st) f cdv A outer s H E) (fun cls d _ H' => E cls d H') := takes_of rfl rfl rfl rfl
    refine hS G (mask H B) G H _ ok (fun C hC σ H' e => wX_of tk (hE C hC H' e)) _ ⟨fun G' H' σ' ss' O' S' e' p => ?_, fun G' H' σ' ss' v k' O' S' e' r p => ?_, fun _ _ _ _ _ _ _ p => p.elim, fun _ _ _ _ _ _ _ p => p.elim⟩
    · obtain ⟨O'', h1, h2, h3⟩ := p
      exact hq G' H' .non (.dat .none) O'' ((S'.less h1 (h2 S'.nd)).slots .nil) DP.non h3
    · obtain ⟨O'', h1, h2, h3⟩ := p
      exact hq G' H' v k' O'' ((S'.less h1 (h2 S'.nd)).slots .nil) r h3
end
theorem perm_mem {B F : Store} (h : O.Perm (B ++ F)) : ∀ q, q ∈ O ↔ q ∈ B ∨ q ∈ F := fun q => (h.mem_iff).trans List.mem_append
theorem perm_erase {α : Type} : ∀ {l : List α} {j : Nat} (h : j < l.length), l.Perm (l[j] :: l.eraseIdx j)
  | _ :: _, 0, _ => List.Perm.refl _
  | a :: l, j + 1, h => ((perm_erase (l := l) (j := j) (by simpa using h)).cons a).trans (List.Perm.swap _ _ _)
/-- what a callee's promise gives its caller -/
theorem call_back {G0 H0 G H : Hp} {σ : L2.St} {vs : List V} {Q : VK} {T : DSp} {B F : Store} (S : Sta G0 H0 G H σ ss O) (L : Lt X R H0) (hk : Kinds G vs ks) (hp : O.Perm (B ++ F)) (hT : T ks B (fun r B' => Φ r (B' ++ F)) R) (q : Wt X G0 H0 G σ ss Φ Q) :
    toSp T vs H Q (WE (wX X) σ) := by
  have nd : ((B ++ F).map (·.1)).Nodup := (hp.map (·.1)).nodup_iff.mp S.nd
  rw [List.map_append, List.nodup_append] at nd
  obtain ⟨nB, nF, nBF⟩ := nd
  have hB : ∀ q ∈ B, q ∈ O := fun q h => (perm_mem hp q).mpr (.inl h)
  have hF : ∀ q ∈ F, q ∈ O := fun q h => (perm_mem hp q).mpr (.inr h)
  have h0 : Ex H0 (mask H B) := fun a o e => by
    have : a ∉ B.map (·.1) := fun z => by
      obtain ⟨q, hq, e'⟩ := List.mem_map.mp z
      have := (S.ob q (hB q hq)).2.2
      rw [e', e] at this
      cases this
    rw [mask_out this]
    exact S.h0 a o e
  refine ⟨G, ks, B, _, R, hk, S.gh, nB, fun q hq => ⟨(S.ob q (hB q hq)).1, (S.ob q (hB q hq)).2.1⟩, hT, fun G' H' v r B' S' r' p => ?_, fun C hC H' e => L C hC σ H' (h0.trans e)⟩
  have keyF : ∀ q ∈ F, q.1 ∉ B.map (·.1) := fun q hq z => nBF _ z q.1 (List.mem_map_of_mem hq) rfl
  have maskF : ∀ q ∈ F, mask H B q.1 = H q.1 := fun q hq => mask_out (keyF q hq)
  have gF : ∀ q ∈ F, G' q.1 = none := fun q hq => by
    cases e : G' q.1 with
    | none => rfl
    | some o =>
      obtain ⟨a, b, c⟩ := S.ob q (hF q hq)
      rcases S'.fr _ _ e with z | z
      · rw [b] at z; cases z
      · obtain ⟨u, hu⟩ := ob_some a
        rw [maskF q hq, hu] at z; cases z
  refine q G' H' v r (B' ++ F) ⟨S.g0.trans S'.g0, h0.trans S'.h0, S'.gh, fun a o e => ?_, slots_ex S'.g0 S.sl, ?_, fun q hq => ?_⟩ S'.g0 r' p
  · rcases S'.fr a o e with z | z
    · exact S.fr a o z
    · refine .inr ?_
      cases y : H0 a with
      | none => rfl
      | some u =>
        have := h0 a u y
        rw [z] at this; cases this
  · rw [List.map_append, List.nodup_append]
    refine ⟨S'.nd, nF, fun a ha b hb e => ?_⟩
    subst e
    obtain ⟨q1, hq1, e1⟩ := List.mem_map.mp ha
    obtain ⟨q2, hq2, e2⟩ := List.mem_map.mp hb
    have z1 := (S'.ob q1 hq1).2.2
    obtain ⟨u, hu⟩ := ob_some (S.ob q2 (hF q2 hq2)).1
    rw [e1, ← e2, maskF q2 hq2, hu] at z1
    cases z1
  · rcases List.mem_append.mp hq with hq | hq
    · obtain ⟨a, b, c⟩ := S'.ob q hq
      refine ⟨a, b, ?_⟩
      cases y : H0 q.1 with
      | none => rfl
      | some u =>
        have := h0 _ u y
        rw [c] at this; cases this
    · obtain ⟨a, b, c⟩ := S.ob q (hF q hq)
      obtain ⟨u, hu⟩ := ob_some a
      have e : H' q.1 = H q.1 := by
        rw [hu]
        exact S'.h0 _ _ ((maskF q hq).trans hu)
      exact ⟨ob_ex S'.g0 e a, gF q hq, c⟩
/-- f(e, ..): written arguments, then the defaults' kinds dk -/
theorem ej_call {n : Nat} {f : Addr} {fd : FuncData} {ps : List Str} {T : DSp} {x : Str} {p : Pos} {ds : List Value} {dvs : List V} {dk : List Kd} {Φa : List Kd → Store → Prop} (Fn : FD X.prog X.w X.K X.mg X.base n f fd ps T) (hr : Room n X.A) (hg : Gl X x) (hm : X.mg x = some (.ref f)) (hk : PySem.W.keepIn X.K (.ref f) = true)
    (hb : Binds X.K fd ps ds) (hd : Vals dvs ds) (hdk : ∀ G, Kinds G dvs dk) (ha : AJ X R (e :: es) ss O Φa) (hT : ∀ ks O1, Φa ks O1 → ∃ B F, O1.Perm (B ++ F) ∧ T (ks ++ dk) B (fun r B' => Φ r (B' ++ F)) R)
    (hdb : (x == ("__debug__" : Str)) = false := by decide) (he : starEach (e :: es) X.env = (false, eval e X.env) :: starEach es X.env := by exact star_ne rfl) (hpl : (backTo pos (starEach es X.env)).any (·.1) = false := by rfl) : EJ X R (.Call (.Name x p) (e :: es) [] pos) ss O Φ := fun G0 H0 G H σ S L Q q =>
  wE_of (pe_callSD Fn hr hg hm hk hb hd (fun σ => passAt takesW σ) paW hdb he hpl) (ha G0 H0 G H σ S L _ fun G1 H1 vs ks O1 S1 e1 r1 p1 => by
    obtain ⟨B, F, hp, hT⟩ := hT ks O1 p1
    exact call_back S1 L (paired_app r1 (hdk G1)) hp hT (q.ex e1))
/-- .. no defaults, nothing lent -/
theorem ev_call {n : Nat} {f : Addr} {fd : FuncData} {ps : List Str} {T : DSp} {x : Str} {p : Pos} (Fn : FD X.prog X.w X.K X.mg X.base n f fd ps T) (hr : Room n X.A) (hg : Gl X x) (hm : X.mg x = some (.ref f)) (hk : PySem.W.keepIn X.K (.ref f) = true)
    (hb : Binds X.K fd ps []) (ha : AV X R (e :: es) ss O ks O1) (hT : T ks [] (fun r B' => Φ r (B' ++ O1)) R)
    (hdb : (x == ("__debug__" : Str)) = false := by decide) (he : starEach (e :: es) X.env = (false, eval e X.env) :: starEach es X.env := by exact star_ne rfl) (hpl : (backTo pos (starEach es X.env)).any (·.1) = false := by rfl) : EJ X R (.Call (.Name x p) (e :: es) [] pos) ss O Φ :=
  ej_call (dk := []) Fn hr hg hm hk hb .nil (fun _ => .nil) ha (fun _ _ ⟨e1, e2⟩ => by
    subst e1 e2
    exact ⟨[], _, List.Perm.refl _, by rw [List.append_nil]; exact hT⟩) hdb he hpl
/-- .. the object at place j lent -/
theorem ev_callO (j : Nat) {n : Nat} {f : Addr} {fd : FuncData} {ps : List Str} {T : DSp} {x : Str} {p : Pos} {q : Addr × Ob} (Fn : FD X.prog X.w X.K X.mg X.base n f fd ps T) (hr : Room n X.A) (hg : Gl X x) (hm : X.mg x = some (.ref f)) (hk : PySem.W.keepIn X.K (.ref f) = true)
    (hb : Binds X.K fd ps []) (ha : AV X R (e :: es) ss O ks O1) (hj : O1[j]? = some q) (hT : T ks [q] (fun r B' => Φ r (B' ++ O1.eraseIdx j)) R)
    (hdb : (x == ("__debug__" : Str)) = false := by decide) (he : starEach (e :: es) X.env = (false, eval e X.env) :: starEach es X.env := by exact star_ne rfl) (hpl : (backTo pos (starEach es X.env)).any (·.1) = false := by rfl) : EJ X R (.Call (.Name x p) (e :: es) [] pos) ss O Φ :=
  ej_call (dk := []) Fn hr hg hm hk hb .nil (fun _ => .nil) ha (fun _ _ ⟨e1, e2⟩ => by
    subst e1 e2
    refine ⟨[q], _, ?_, by rw [List.append_nil]; exact hT⟩
    obtain ⟨l, e⟩ := List.getElem?_eq_some_iff.mp hj
    rw [← e]
    exact perm_erase l) hdb he hpl
end
end Dl
namespace Dl
open PySem PySem.Spec PyProof.Rows L2
open Evl (Ex)

/-! ### texts as lists of signs -/
abbrev sL (l : List Nat) : Str := ⟨l.toArray⟩
abbrev dS (l : List Nat) : D := .str (sL l)
theorem sL_len (l : List Nat) : (sL l).length = l.length := List.size_toArray
theorem sL_app (a b : List Nat) : sL a ++ sL b = sL (a ++ b) := by
  show (⟨a.toArray ++ b.toArray⟩ : Str) = ⟨(a ++ b).toArray⟩
  rw [List.append_toArray]
theorem sL_inj {a b : List Nat} (h : sL a = sL b) : a = b := by
  have := congrArg (fun s : Str => s.cps.toList) h
  simpa using this
theorem line24 {n : Nat} (h : n ≤ 16777216) : n ≤ sizeLine := by rw [sizeLine_eq]; exact h
theorem dp_int {G : Hp} {x : V} {i : Int} (h : DP G x (.int i)) : x = .int i := by cases h; rfl
theorem dp_str {G : Hp} {x : V} {i : Str} (h : DP G x (.str i)) : x = .str i := by cases h; rfl
theorem dp_bl {G : Hp} {x : V} {i : Bool} (h : DP G x (.bool i)) : x = .bl i := by cases h; rfl
theorem dp_lst {G : Hp} {x : V} {ds : List D} (h : DP G x (.list ds)) : ∃ a xs, x = .ref a ∧ G a = some (.lst xs) ∧ DPs G xs ds := by
  cases h with
  | lst h a => exact ⟨_, _, rfl, h, a⟩
theorem dp_tup {G : Hp} {x : V} {ds : List D} (h : DP G x (.tuple ds)) : ∃ a xs, x = .ref a ∧ G a = some (.tup xs) ∧ DPs G xs ds := by
  cases h with
  | tup h a => exact ⟨_, _, rfl, h, a⟩

section
variable {X : Cx} {R : Addr → Prop} {e a b c : Expr} {es : List Expr} {ss : List Kd} {O O1 O2 O' : Store} {k ka kb : Kd} {ks : List Kd} {Φ Ψ : Kd → Store → Prop} {pos : Pos}

/-! ### numbers -/
theorem oj_I0 {g : Int → Int → Int} {i j : Int} (h : Φ (.dat (.int (g i j))) O) : OJ X (rI0 fun i j => .int (g i j)) (.dat (.int i)) (.dat (.int j)) O Φ := fun G0 H0 G H σ ss x y S h1 h2 Q q =>
  ⟨i, j, dp_int h1, dp_int h2, q.d S (Ex.refl G) (DP.int _) h⟩
theorem oj_I {C : Int → Int → Prop} {g : Int → Int → Int} {i j : Int} (hc : C i j) (h : Φ (.dat (.int (g i j))) O) : OJ X (rI C fun i j => .int (g i j)) (.dat (.int i)) (.dat (.int j)) O Φ := fun G0 H0 G H σ ss x y S h1 h2 Q q =>
  ⟨i, j, dp_int h1, dp_int h2, hc, q.d S (Ex.refl G) (DP.int _) h⟩
theorem oj_B0 {g : Int → Int → Bool} {i j : Int} (h : Φ (.dat (.bool (g i j))) O) : OJ X (rI0 fun i j => .bl (g i j)) (.dat (.int i)) (.dat (.int j)) O Φ := fun G0 H0 G H σ ss x y S h1 h2 Q q =>
  ⟨i, j, dp_int h1, dp_int h2, q.d S (Ex.refl G) (DP.bl _) h⟩
theorem ev_add {i j : Int} (ha : EV X R a ss O (.dat (.int i)) O1) (hb : EV X R b ss O1 (.dat (.int j)) O2) : EV X R (.BinOp a .Add b pos) ss O (.dat (.int (i + j))) O2 := ev_op op_add ha hb (oj_I0 ⟨rfl, rfl⟩)
theorem ev_sub {i j : Int} (ha : EV X R a ss O (.dat (.int i)) O1) (hb : EV X R b ss O1 (.dat (.int j)) O2) : EV X R (.BinOp a .Sub b pos) ss O (.dat (.int (i - j))) O2 := ev_op op_sub ha hb (oj_I0 ⟨rfl, rfl⟩)
theorem ev_mul {i j : Int} (ha : EV X R a ss O (.dat (.int i)) O1) (hb : EV X R b ss O1 (.dat (.int j)) O2) (hc : CMul i j) : EV X R (.BinOp a .Mult b pos) ss O (.dat (.int (i * j))) O2 := ev_op op_mul ha hb (oj_I hc ⟨rfl, rfl⟩)
theorem ev_mulW {i j : Int} (ha : EV X R a ss O (.dat (.int i)) O1) (hb : EV X R b ss O1 (.dat (.int j)) O2) (hc : CMulW i j) : EV X R (.BinOp a .Mult b pos) ss O (.dat (.int (i * j))) O2 := ev_op op_mulW ha hb (oj_I hc ⟨rfl, rfl⟩)
theorem ev_fdiv {i j : Int} (ha : EV X R a ss O (.dat (.int i)) O1) (hb : EV X R b ss O1 (.dat (.int j)) O2) (hc : CDiv i j) : EV X R (.BinOp a .FloorDiv b pos) ss O (.dat (.int (i / j))) O2 := ev_op op_fdiv ha hb (oj_I hc ⟨rfl, rfl⟩)
theorem ev_mod {i j : Int} (ha : EV X R a ss O (.dat (.int i)) O1) (hb : EV X R b ss O1 (.dat (.int j)) O2) (hc : 0 < j) : EV X R (.BinOp a .Mod b pos) ss O (.dat (.int (i % j))) O2 := ev_op op_mod ha hb (oj_I (C := fun _ j => 0 < j) hc ⟨rfl, rfl⟩)
theorem ev_pow {i j : Int} (ha : EV X R a ss O (.dat (.int i)) O1) (hb : EV X R b ss O1 (.dat (.int j)) O2) (hc : CPow i j) : EV X R (.BinOp a .Pow b pos) ss O (.dat (.int (i ^ j.toNat))) O2 := ev_op op_pow ha hb (oj_I hc ⟨rfl, rfl⟩)
theorem ev_neg {i : Int} (ha : EV X R a ss O (.dat (.int i)) O1) : EV X R (.UnaryOp .USub a pos) ss O (.dat (.int (-i))) O1 := ev_un un_neg ha fun G0 H0 G H σ ss x S h1 Q q => ⟨i, dp_int h1, q.d S (Ex.refl G) (DP.int _) ⟨rfl, rfl⟩⟩
theorem ev_lt {i j : Int} (ha : EV X R a ss O (.dat (.int i)) O1) (hb : EV X R b ss O1 (.dat (.int j)) O2) : EV X R (.Compare a [.Lt] [b] pos) ss O (.dat (.bool (decide (i < j)))) O2 := ev_cmp op_lt ha hb (oj_B0 ⟨rfl, rfl⟩) (nomark _)
theorem ev_le {i j : Int} (ha : EV X R a ss O (.dat (.int i)) O1) (hb : EV X R b ss O1 (.dat (.int j)) O2) : EV X R (.Compare a [.LtE] [b] pos) ss O (.dat (.bool (decide (i ≤ j)))) O2 := ev_cmp op_le ha hb (oj_B0 ⟨rfl, rfl⟩) (nomark _)
theorem ev_gt {i j : Int} (ha : EV X R a ss O (.dat (.int i)) O1) (hb : EV X R b ss O1 (.dat (.int j)) O2) : EV X R (.Compare a [.Gt] [b] pos) ss O (.dat (.bool (decide (j < i)))) O2 := ev_cmp op_gt ha hb (oj_B0 ⟨rfl, rfl⟩) (nomark _)
theorem ev_ge {i j : Int} (ha : EV X R a ss O (.dat (.int i)) O1) (hb : EV X R b ss O1 (.dat (.int j)) O2) : EV X R (.Compare a [.GtE] [b] pos) ss O (.dat (.bool (decide (j ≤ i)))) O2 := ev_cmp op_ge ha hb (oj_B0 ⟨rfl, rfl⟩) (nomark _)

/-! ### equality of data of any depth -/
/-- data that == reads -/
def pl (d : D) : Bool := nod d && SeqAt.shaped d
theorem pl_nod {d : D} (h : pl d = true) : nod d = true := (Bool.and_eq_true_iff.mp h).1
theorem pl_sh {d : D} (h : pl d = true) : SeqAt.shaped d = true := (Bool.and_eq_true_iff.mp h).2
theorem oj_eq {d1 d2 : D} (hu : X.A.units + 64 < cLine) (s1 : pl d1 = true) (s2 : pl d2 = true) (h : Φ (.dat (.bool (PyData.eqv d1 d2))) O) : OJ X (rEqD X.K) (.dat d1) (.dat d2) O Φ := fun G0 H0 G H σ ss x y S h1 h2 Q q =>
  ⟨d1, d2, dp_of (pl_nod s1) (dp_ex S.gh h1), dp_of (pl_nod s2) (dp_ex S.gh h2), pl_sh s1, pl_sh s2, q.d S (Ex.refl G) (DP.bl _) h⟩
theorem oj_ne {d1 d2 : D} (hu : X.A.units + 64 < cLine) (s1 : pl d1 = true) (s2 : pl d2 = true) (h : Φ (.dat (.bool (!PyData.eqv d1 d2))) O) : OJ X (rNeD X.K) (.dat d1) (.dat d2) O Φ := fun G0 H0 G H σ ss x y S h1 h2 Q q =>
  ⟨d1, d2, dp_of (pl_nod s1) (dp_ex S.gh h1), dp_of (pl_nod s2) (dp_ex S.gh h2), pl_sh s1, pl_sh s2, q.d S (Ex.refl G) (DP.bl _) h⟩
theorem ev_eq {d1 d2 : D} {b' : Bool} {n : Nat} (hr : Room n X.A) (ha : EV X R a ss O (.dat d1) O1) (hb : EV X R b ss O1 (.dat d2) O2) (s1 : pl d1 = true) (s2 : pl d2 = true) (he : PyData.eqv d1 d2 = b') : EV X R (.Compare a [.Eq] [b] pos) ss O (.dat (.bool b')) O2 :=
  ev_cmp (op_eqD hr.units) ha hb (oj_eq hr.units s1 s2 ⟨by rw [he], rfl⟩) (nomark _)
theorem ev_ne {d1 d2 : D} {b' : Bool} {n : Nat} (hr : Room n X.A) (ha : EV X R a ss O (.dat d1) O1) (hb : EV X R b ss O1 (.dat d2) O2) (s1 : pl d1 = true) (s2 : pl d2 = true) (he : (!PyData.eqv d1 d2) = b') : EV X R (.Compare a [.NotEq] [b] pos) ss O (.dat (.bool b')) O2 :=
  ev_cmp (op_neD hr.units) ha hb (oj_ne hr.units s1 s2 ⟨by rw [he], rfl⟩) (nomark _)
theorem ev_isN {d1 : D} {j : Nat} {p2 : Pos} (ha : EV X R a ss O (.dat d1) O1) : EV X R (.Compare a [.Is] [.Constant .none j p2] pos) ss O (.dat (.bool (match d1 with | .none => true | _ => false))) O1 :=
  ev_cmp op_isN ha ev_non (fun G0 H0 G H σ ss x y S h1 h2 Q q => by
    cases h2
    refine ⟨rfl, ?_⟩
    cases h1 <;> exact q.d S (Ex.refl G) (DP.bl _) ⟨rfl, rfl⟩) (nomark _)
theorem ev_notN {d1 : D} {j : Nat} {p2 : Pos} (ha : EV X R a ss O (.dat d1) O1) : EV X R (.Compare a [.IsNot] [.Constant .none j p2] pos) ss O (.dat (.bool (match d1 with | .none => false | _ => true))) O1 :=
  ev_cmp op_notN ha ev_non (fun G0 H0 G H σ ss x y S h1 h2 Q q => by
    cases h2
    refine ⟨rfl, ?_⟩
    cases h1 <;> exact q.d S (Ex.refl G) (DP.bl _) ⟨rfl, rfl⟩) (nomark _)

/-! ### texts -/
theorem ev_sadd {s t : List Nat} (ha : EV X R a ss O (.dat (dS s)) O1) (hb : EV X R b ss O1 (.dat (dS t)) O2) (hl : s.length + t.length ≤ 16777216) : EV X R (.BinOp a .Add b pos) ss O (.dat (dS (s ++ t))) O2 :=
  ev_op op_add_str ha hb fun G0 H0 G H σ ss x y S h1 h2 Q q => ⟨sL s, sL t, dp_str h1, dp_str h2, by rw [sL_len, sL_len]; exact line24 hl, by
    rw [sL_app]
    exact q.d S (Ex.refl G) (DP.str _) ⟨rfl, rfl⟩⟩
theorem ev_slt {s t : List Nat} (ha : EV X R a ss O (.dat (dS s)) O1) (hb : EV X R b ss O1 (.dat (dS t)) O2) : EV X R (.Compare a [.Lt] [b] pos) ss O (.dat (.bool (decide (s < t)))) O2 :=
  ev_cmp op_lt_str ha hb (fun G0 H0 G H σ ss x y S h1 h2 Q q => ⟨sL s, sL t, dp_str h1, dp_str h2, q.d S (Ex.refl G) (DP.bl _) ⟨by simp, rfl⟩⟩) (nomark _)
theorem ev_inSign {c : Nat} {t : List Nat} (ha : EV X R a ss O (.dat (dS [c])) O1) (hb : EV X R b ss O1 (.dat (dS t)) O2) (hm : behindInMarks .In b = false := by rfl) : EV X R (.Compare a [.In] [b] pos) ss O (.dat (.bool (decide (c ∈ t)))) O2 :=
  ev_cmp op_in_sign ha hb (fun G0 H0 G H σ ss x y S h1 h2 Q q => ⟨c, sL t, dp_str h1, dp_str h2, q.d S (Ex.refl G) (DP.bl _) ⟨by simp, rfl⟩⟩) hm
theorem ev_notInSign {c : Nat} {t : List Nat} (ha : EV X R a ss O (.dat (dS [c])) O1) (hb : EV X R b ss O1 (.dat (dS t)) O2) (hm : behindInMarks .NotIn b = false := by rfl) : EV X R (.Compare a [.NotIn] [b] pos) ss O (.dat (.bool (!decide (c ∈ t)))) O2 :=
  ev_cmp op_notIn_sign ha hb (fun G0 H0 G H σ ss x y S h1 h2 Q q => ⟨c, sL t, dp_str h1, dp_str h2, q.d S (Ex.refl G) (DP.bl _) ⟨by simp, rfl⟩⟩) hm

/-! ### lists and tuples -/
theorem dps_len {G : Hp} {vs : List V} {ds : List D} (h : DPs G vs ds) : vs.length = ds.length := dpAll_len h
theorem ev_ladd {d1 d2 : List D} (ha : EV X R a ss O (.dat (.list d1)) O1) (hb : EV X R b ss O1 (.dat (.list d2)) O2) (hl : d1.length + d2.length ≤ 16777216) : EV X R (.BinOp a .Add b pos) ss O (.dat (.list (d1 ++ d2))) O2 :=
  ev_op op_cat ha hb fun G0 H0 G H σ ss x y S h1 h2 Q q => by
    obtain ⟨p1, xs, e1, g1, r1⟩ := dp_lst h1
    obtain ⟨p2, ys, e2, g2, r2⟩ := dp_lst h2
    refine ⟨p1, p2, xs, ys, e1, e2, S.gh _ _ g1, S.gh _ _ g2, by rw [dps_len r1, dps_len r2]; exact line24 hl, fun p hp => ?_⟩
    have eg : Ex G (upd G p (.lst (xs ++ ys))) := Ex.new (S.free hp)
    exact q.d (S.data hp (.lst (xs ++ ys))) eg (DP.lst upd_same (dpAll_ex eg (dpAll_app r1 r2))) ⟨rfl, rfl⟩
theorem ev_tadd {d1 d2 : List D} (ha : EV X R a ss O (.dat (.tuple d1)) O1) (hb : EV X R b ss O1 (.dat (.tuple d2)) O2) (hl : d1.length + d2.length ≤ 16777216) : EV X R (.BinOp a .Add b pos) ss O (.dat (.tuple (d1 ++ d2))) O2 :=
  ev_op op_catA ha hb fun G0 H0 G H σ ss x y S h1 h2 Q q => by
    obtain ⟨p1, xs, e1, g1, r1⟩ := dp_tup h1
    obtain ⟨p2, ys, e2, g2, r2⟩ := dp_tup h2
    refine ⟨p1, p2, xs, ys, e1, e2, .of (S.gh _ _ g1), .of (S.gh _ _ g2), by rw [dps_len r1, dps_len r2]; exact line24 hl, fun ex => ?_, fun nx ey => ?_, fun _ _ p hp => ?_⟩
    · subst ex
      cases r1
      exact q.d S (Ex.refl G) (DP.tup g2 r2) ⟨rfl, rfl⟩
    · subst ey
      cases r2
      rw [List.append_nil] at *
      exact q.d S (Ex.refl G) (DP.tup g1 r1) ⟨rfl, rfl⟩
    · have eg : Ex G (upd G p (.tup (xs ++ ys))) := Ex.new (S.free hp)
      exact q.d (S.data hp (.tup (xs ++ ys))) eg (DP.tup upd_same (dpAll_ex eg (dpAll_app r1 r2))) ⟨rfl, rfl⟩
theorem dps_rep {G : Hp} {xs : List V} {ds : List D} (h : DPs G xs ds) : ∀ n : Nat, DPs G (List.replicate n xs).flatten (List.replicate n ds).flatten
  | 0 => .nil
  | n + 1 => by
    rw [List.replicate_succ, List.replicate_succ, List.flatten_cons, List.flatten_cons]
    exact dpAll_app h (dps_rep h n)
theorem ev_lrep {d1 : List D} {n : Nat} (ha : EV X R a ss O (.dat (.list d1)) O1) (hb : EV X R b ss O1 (.dat (.int n)) O2) (hl : d1.length * n ≤ 16777216) (hn : n ≤ 16777216) : EV X R (.BinOp a .Mult b pos) ss O (.dat (.list (List.replicate n d1).flatten)) O2 :=
  ev_op op_rep ha hb fun G0 H0 G H σ ss x y S h1 h2 Q q => by
    obtain ⟨p1, xs, e1, g1, r1⟩ := dp_lst h1
    refine ⟨p1, (n : Int), xs, e1, dp_int h2, S.gh _ _ g1, by omega, by omega, by rw [dps_len r1]; exact line24 (by simpa using hl), fun p hp => ?_⟩
    have eg : Ex G (upd G p (.lst (List.replicate n xs).flatten)) := Ex.new (S.free hp)
    exact q.d (S.data hp _) eg (DP.lst upd_same (dpAll_ex eg (dps_rep r1 n))) ⟨rfl, rfl⟩

/-! ### subscripts -/
theorem atI_dps {G : Hp} {xs : List V} {ds : List D} {i : Int} {d : D} (h : DPs G xs ds) (e : atI ds i = some d) : ∃ v, atI xs i = some v ∧ DP G v d := by
  unfold atI at e ⊢
  rw [dps_len h]
  cases hi : ixN ds.length i with
  | none => rw [hi] at e; cases e
  | some j =>
    rw [hi] at e
    exact dpAll_get h e
theorem ej_ix {r : R2} (hr : IxR X r) (ha : EV X R a ss O ka O1) (hb : EV X R b ss O1 kb O2) (h : OJ X r ka kb O2 Φ) (hs : PlainIx b) : EJ X R (.Subscript a b pos) ss O Φ :=
  fun G0 H0 G H σ S L Q q => wE_of (pe_ix hr peW peW hs) (ha G0 H0 G H σ S L _ fun G1 H1 v k O1 S1 e1 r1 ⟨h1, h2⟩ => by
    subst h1 h2
    exact hb G0 H0 G1 H1 σ S1 L _ fun G2 H2 v2 k2 O2 S2 e2 r2 ⟨h3, h4⟩ => by subst h3 h4; exact h G0 H0 G2 H2 σ ss v v2 S2 (kd_ex e2 r1) r2 Q (q.ex (e1.trans e2)))
theorem ev_ixL {ds : List D} {i : Int} {d : D} (ha : EV X R a ss O (.dat (.list ds)) O1) (hb : EV X R b ss O1 (.dat (.int i)) O2) (h : atI ds i = some d) (hs : PlainIx b := by exact fun _ _ => rfl) : EV X R (.Subscript a b pos) ss O (.dat d) O2 :=
  ej_ix ix_list ha hb (fun G0 H0 G H σ ss x y S h1 h2 Q q => by
    obtain ⟨p1, xs, e1, g1, r1⟩ := dp_lst h1
    obtain ⟨v, hv, dv⟩ := atI_dps r1 h
    exact ⟨p1, xs, i, v, e1, dp_int h2, .of (S.gh _ _ g1), hv, q.d S (Ex.refl G) dv ⟨rfl, rfl⟩⟩) hs
theorem ev_ixT {ds : List D} {i : Int} {d : D} (ha : EV X R a ss O (.dat (.tuple ds)) O1) (hb : EV X R b ss O1 (.dat (.int i)) O2) (h : atI ds i = some d) (hs : PlainIx b := by exact fun _ _ => rfl) : EV X R (.Subscript a b pos) ss O (.dat d) O2 :=
  ej_ix ix_tup ha hb (fun G0 H0 G H σ ss x y S h1 h2 Q q => by
    obtain ⟨p1, xs, e1, g1, r1⟩ := dp_tup h1
    obtain ⟨v, hv, dv⟩ := atI_dps r1 h
    exact ⟨p1, xs, i, v, e1, dp_int h2, .of (S.gh _ _ g1), hv, q.d S (Ex.refl G) dv ⟨rfl, rfl⟩⟩) hs
theorem ev_ixS {s : List Nat} {i : Int} {c : Nat} (ha : EV X R a ss O (.dat (dS s)) O1) (hb : EV X R b ss O1 (.dat (.int i)) O2) (h : atI s i = some c) (hl : s.length ≤ 16777216) (hs : PlainIx b := by exact fun _ _ => rfl) : EV X R (.Subscript a b pos) ss O (.dat (dS [c])) O2 :=
  ej_ix ix_str ha hb (fun G0 H0 G H σ ss x y S h1 h2 Q q => ⟨sL s, i, c, dp_str h1, dp_int h2, by rw [sL_len]; exact line24 hl, by simpa using h, q.d S (Ex.refl G) (DP.str _) ⟨rfl, rfl⟩⟩) hs
/-- an owned list's item -/
theorem ev_ixO (j : Nat) {p : Addr} {ds : List D} {i : Int} {d : D} (ha : EV X R a ss O (.val (.ref p)) O1) (hb : EV X R b ss O1 (.dat (.int i)) O2) (hj : O2[j]? = some (p, .ol ds)) (h : atI ds i = some d) (hs : PlainIx b := by exact fun _ _ => rfl) : EV X R (.Subscript a b pos) ss O (.dat d) O2 :=
  ej_ix ix_list ha hb (fun G0 H0 G H σ ss x y S h1 h2 Q q => by
    obtain ⟨⟨vs, hv, rv⟩, _, _⟩ := S.ob _ (List.mem_of_getElem? hj)
    obtain ⟨v, hv', dv⟩ := atI_dps rv h
    exact ⟨p, vs, i, v, h1, dp_int h2, .of hv, hv', q.d S (Ex.refl G) dv ⟨rfl, rfl⟩⟩) hs
/-- slices -/
def OpI (X : Cx) (R : Addr → Prop) (e : Option Expr) (ss : List Kd) (O : Store) (o : Option Int) (O' : Store) : Prop :=
  ∃ t : TO, PO X e t ∧ ∀ G0 H0 G H σ, Sta G0 H0 G H σ ss O → Lt X R H0 → ∀ Q : Option Int → Hp → Prop, (∀ G' H', Sta G0 H0 G' H' σ ss O' → Ex G G' → Q o H') → t σ H Q
theorem op_none : OpI X R none ss O none O := ⟨_, po_none, fun G0 H0 G H σ S L Q q => q G H S (Ex.refl G)⟩
theorem op_some {i : Int} (h : EV X R e ss O (.dat (.int i)) O') : OpI X R (some e) ss O (some i) O' := ⟨_, po_some peW, fun G0 H0 G H σ S L Q q => h G0 H0 G H σ S L _ fun G1 H1 v k O1 S1 e1 r1 ⟨h1, h2⟩ => by
  subst h1 h2
  exact ⟨i, dp_int r1, q G1 H1 S1 e1⟩⟩
theorem ej_sl {r : V → Option Int → Option Int → Hp → VK → Prop} {lo hi : Option Expr} {l h : Option Int} {O3 : Store} {p2 : Pos} (hr : SlR X r) (ha : EV X R a ss O ka O1) (hl : OpI X R lo ss O1 l O2) (hh : OpI X R hi ss O2 h O3)
    (hq : ∀ G0 H0 G H σ ss x, Sta G0 H0 G H σ ss O3 → KdAt G x ka → ∀ Q : VK, Wt X G0 H0 G σ ss Φ Q → r x l h H Q) : EJ X R (.Subscript a (.Slice lo hi none p2) pos) ss O Φ := fun G0 H0 G H σ S L Q q => by
  obtain ⟨t1, p1, w1⟩ := hl
  obtain ⟨t2, p2, w2⟩ := hh
  refine wE_of (pe_slice hr peW p1 p2) (ha G0 H0 G H σ S L _ fun G1 H1 v k O1 S1 e1 r1 ⟨h1, h2⟩ => ?_)
  subst h1 h2
  refine w1 G0 H0 G1 H1 σ S1 L _ fun G2 H2 S2 e2 => w2 G0 H0 G2 H2 σ S2 L _ fun G3 H3 S3 e3 => ?_
  exact hq G0 H0 G3 H3 σ ss v S3 (kd_ex (e2.trans e3) r1) Q (q.ex ((e1.trans e2).trans e3))
/-- xs[lo:hi] of any list -/
def cut {α : Type} (xs : List α) (lo hi : Option Int) : List α := (xs.drop (HT.sIx xs.length 0 lo)).take (HT.sIx xs.length xs.length hi - HT.sIx xs.length 0 lo)
theorem dps_drop {G : Hp} : ∀ {xs : List V} {ds : List D} (n : Nat), DPs G xs ds → DPs G (xs.drop n) (ds.drop n)
  | _, _, 0, r => r
  | _, _, _ + 1, .nil => .nil
  | _, _, n + 1, .cons _ t => dps_drop n t
theorem dps_take {G : Hp} : ∀ {xs : List V} {ds : List D} (n : Nat), DPs G xs ds → DPs G (xs.take n) (ds.take n)
  | _, _, 0, _ => .nil
  | _, _, _ + 1, .nil => .nil
  | _, _, n + 1, .cons r t => .cons r (dps_take n t)
theorem dps_cut {G : Hp} {xs : List V} {ds : List D} {lo hi : Option Int} (h : DPs G xs ds) : DPs G (cutV xs lo hi) (cut ds lo hi) := by
  unfold cutV cut
  rw [dps_len h]
  exact dps_take _ (dps_drop _ h)
theorem cut_whole {α : Type} (xs : List α) {lo hi : Option Int} (h : HT.sIx xs.length 0 lo = 0 ∧ HT.sIx xs.length xs.length hi = xs.length) : cut xs lo hi = xs := by
  unfold cut
  rw [h.1, h.2, List.drop_zero, Nat.sub_zero, List.take_length]
theorem ev_slS {s : List Nat} {lo hi : Option Expr} {l h : Option Int} {O3 : Store} {p2 : Pos} (ha : EV X R a ss O (.dat (dS s)) O1) (hl : OpI X R lo ss O1 l O2) (hh : OpI X R hi ss O2 h O3) (hz : s.length ≤ 16777216) : EV X R (.Subscript a (.Slice lo hi none p2) pos) ss O (.dat (dS (cut s l h))) O3 :=
  ej_sl sl_str ha hl hh fun G0 H0 G H σ ss x S h1 Q q => ⟨sL s, dp_str h1, by rw [sL_len]; exact line24 hz, by
    have e : cutS (sL s) l h = sL (cut s l h) := by
      unfold cutS cut
      rw [sL_len]
    rw [e]
    exact q.d S (Ex.refl G) (DP.str _) ⟨rfl, rfl⟩⟩
theorem ev_slT {ds : List D} {lo hi : Option Expr} {l h : Option Int} {O3 : Store} {p2 : Pos} (ha : EV X R a ss O (.dat (.tuple ds)) O1) (hl : OpI X R lo ss O1 l O2) (hh : OpI X R hi ss O2 h O3) : EV X R (.Subscript a (.Slice lo hi none p2) pos) ss O (.dat (.tuple (cut ds l h))) O3 :=
  ej_sl sl_tupA ha hl hh fun G0 H0 G H σ ss x S h1 Q q => by
    obtain ⟨p1, xs, e1, g1, r1⟩ := dp_tup h1
    refine ⟨p1, xs, e1, .of (S.gh _ _ g1), fun z => ?_, fun _ p hp => ?_⟩
    · rw [dps_len r1] at z
      rw [e1] at h1
      exact q.d S (Ex.refl G) h1 ⟨by rw [cut_whole ds z], rfl⟩
    · have eg : Ex G (upd G p (.tup (cutV xs l h))) := Ex.new (S.free hp)
      exact q.d (S.data hp _) eg (DP.tup upd_same (dpAll_ex eg (dps_cut r1))) ⟨rfl, rfl⟩
theorem ev_slL {ds : List D} {lo hi : Option Expr} {l h : Option Int} {O3 : Store} {p2 : Pos} (ha : EV X R a ss O (.dat (.list ds)) O1) (hl : OpI X R lo ss O1 l O2) (hh : OpI X R hi ss O2 h O3) : EV X R (.Subscript a (.Slice lo hi none p2) pos) ss O (.dat (.list (cut ds l h))) O3 :=
  ej_sl sl_list ha hl hh fun G0 H0 G H σ ss x S h1 Q q => by
    obtain ⟨p1, xs, e1, g1, r1⟩ := dp_lst h1
    refine ⟨p1, xs, e1, .of (S.gh _ _ g1), fun p hp => ?_⟩
    have eg : Ex G (upd G p (.lst (cutV xs l h))) := Ex.new (S.free hp)
    exact q.d (S.data hp _) eg (DP.lst upd_same (dpAll_ex eg (dps_cut r1))) ⟨rfl, rfl⟩

/-! ### built-in calls -/
theorem ev_callB {id : String} {r : List V → Hp → VK → Prop} {x : Str} {p : Pos} (hc : CallR X (.builtin id) r) (hg : Gl X x) (hm : X.mg x = none) (hv : bootBuiltins x = some (.builtin id)) (ha : AV X R (e :: es) ss O ks O1) (h : CJ X r ks O1 Φ) (hn : x ≠ "__name__" := by decide) (hdb : (x == ("__debug__" : Str)) = false := by decide)
    (he : starEach (e :: es) X.env = (false, eval e X.env) :: starEach es X.env := by exact star_ne rfl) (hpl : (backTo pos (starEach es X.env)).any (·.1) = false := by rfl) : EJ X R (.Call (.Name x p) (e :: es) [] pos) ss O Φ := fun G0 H0 G H σ S L Q q =>
  wE_of (pe_callB hc hg hm hv paW hn hdb he hpl) (ha G0 H0 G H σ S L _ fun G1 H1 vs k1 O1 S1 e1 r1 ⟨h1, h2⟩ => by subst h1 h2; exact h G0 H0 G1 H1 σ ss vs S1 r1 Q (q.ex e1))
theorem ev_callTy {id : String} {r : List V → Hp → VK → Prop} {x : Str} {p : Pos} (hc : CallR X (.type id) r) (hg : Gl X x) (hm : X.mg x = none) (hv : bootBuiltins x = some (.type id)) (ha : AV X R (e :: es) ss O ks O1) (h : CJ X r ks O1 Φ) (hn : x ≠ "__name__" := by decide) (hdb : (x == ("__debug__" : Str)) = false := by decide)
    (he : starEach (e :: es) X.env = (false, eval e X.env) :: starEach es X.env := by exact star_ne rfl) (hpl : (backTo pos (starEach es X.env)).any (·.1) = false := by rfl) : EJ X R (.Call (.Name x p) (e :: es) [] pos) ss O Φ := fun G0 H0 G H σ S L Q q =>
  wE_of (pe_callTy hc hg hm hv paW hn hdb he hpl) (ha G0 H0 G H σ S L _ fun G1 H1 vs k1 O1 S1 e1 r1 ⟨h1, h2⟩ => by subst h1 h2; exact h G0 H0 G1 H1 σ ss vs S1 r1 Q (q.ex e1))
theorem kinds1 {G : Hp} {vs : List V} {k : Kd} (h : Kinds G vs [k]) : ∃ v, vs = [v] ∧ KdAt G v k := by
  cases h with
  | cons r t => cases t; exact ⟨_, rfl, r⟩
theorem kinds2 {G : Hp} {vs : List V} {k l : Kd} (h : Kinds G vs [k, l]) : ∃ v w, vs = [v, w] ∧ KdAt G v k ∧ KdAt G w l := by
  cases h with
  | cons r t => obtain ⟨w, rfl, h⟩ := kinds1 t; exact ⟨_, w, rfl, r, h⟩
theorem cj_len {d : D} {n : Nat} (h : (∃ l, d = dS l ∧ l.length = n ∧ l.length ≤ 16777216) ∨ (∃ ds, d = .list ds ∧ ds.length = n) ∨ (∃ ds, d = .tuple ds ∧ ds.length = n)) (hq : Φ (.dat (.int n)) O) :
    CJ X (fun xs H Q => ∃ x n, xs = [x] ∧ LenV X.K x H n ∧ Q (.int n) H) [.dat d] O Φ := fun G0 H0 G H σ ss xs S h1 Q q => by
  obtain ⟨v, rfl, r⟩ := kinds1 h1
  refine ⟨v, n, rfl, ?_, q.d S (Ex.refl G) (DP.int _) hq⟩
  rcases h with ⟨l, rfl, e, hl⟩ | ⟨ds, rfl, e⟩ | ⟨ds, rfl, e⟩
  · cases dp_str r
    exact ⟨by rw [sL_len]; exact line24 hl, by rw [← e]; exact sL_len l⟩
  · obtain ⟨p1, xs, rfl, g1, r1⟩ := dp_lst r
    exact .inl ⟨xs, .of (S.gh _ _ g1), ((dps_len r1).trans e).symm⟩
  · obtain ⟨p1, xs, rfl, g1, r1⟩ := dp_tup r
    exact .inr ⟨xs, .of (S.gh _ _ g1), ((dps_len r1).trans e).symm⟩
theorem ev_lenS {x : Str} {p : Pos} {s : List Nat} (ha : EV X R e ss O (.dat (dS s)) O1) (hz : s.length ≤ 16777216) (hm : X.mg "len" = none) (hx : x = "len" := by rfl) (hg : Gl X x := by rfl) (he : starEach [e] X.env = (false, eval e X.env) :: starEach [] X.env := by exact star_ne rfl) : EV X R (.Call (.Name x p) [e] [] pos) ss O (.dat (.int s.length)) O1 := by
  subst hx
  exact ev_callB call_len hg hm PySem.boot_len (av_cons ha av_nil he) (cj_len (.inl ⟨s, rfl, rfl, hz⟩) ⟨rfl, rfl⟩) (he := he)
theorem ev_lenL {x : Str} {p : Pos} {ds : List D} (ha : EV X R e ss O (.dat (.list ds)) O1) (hm : X.mg "len" = none) (hx : x = "len" := by rfl) (hg : Gl X x := by rfl) (he : starEach [e] X.env = (false, eval e X.env) :: starEach [] X.env := by exact star_ne rfl) : EV X R (.Call (.Name x p) [e] [] pos) ss O (.dat (.int ds.length)) O1 := by
  subst hx
  exact ev_callB call_len hg hm PySem.boot_len (av_cons ha av_nil he) (cj_len (.inr (.inl ⟨ds, rfl, rfl⟩)) ⟨rfl, rfl⟩) (he := he)
theorem ev_lenT {x : Str} {p : Pos} {ds : List D} (ha : EV X R e ss O (.dat (.tuple ds)) O1) (hm : X.mg "len" = none) (hx : x = "len" := by rfl) (hg : Gl X x := by rfl) (he : starEach [e] X.env = (false, eval e X.env) :: starEach [] X.env := by exact star_ne rfl) : EV X R (.Call (.Name x p) [e] [] pos) ss O (.dat (.int ds.length)) O1 := by
  subst hx
  exact ev_callB call_len hg hm PySem.boot_len (av_cons ha av_nil he) (cj_len (.inr (.inr ⟨ds, rfl, rfl⟩)) ⟨rfl, rfl⟩) (he := he)
end
end Dl
namespace Dl
open PySem PySem.Spec PyProof.Rows L2
open Evl (Ex)

/-! ### what is walked -/
/-- J yields item 0, .., item (n - 1), whatever happens meanwhile to what is not in G, as long as the store keeps need -/
structure Walks (J : It) (G : Hp) (n : Nat) (item : Nat → Kd) (need : Store → Prop) : Prop where
  go : ∀ i G0 H0 G' H' σ ss O, Sta G0 H0 G' H' σ ss O → Ex G G' → need O → i < n → J.go i H'
  yld : ∀ i G0 H0 G' H' σ ss O x H2, Sta G0 H0 G' H' σ ss O → Ex G G' → need O → i < n → J.yld i H' x H2 → ∃ G2, Sta G0 H0 G2 H2 σ ss O ∧ Ex G' G2 ∧ KdAt G2 x (item i)
  stop : ∀ G0 H0 G' H' σ ss O, Sta G0 H0 G' H' σ ss O → Ex G G' → need O → J.stop n H'
def any : Store → Prop := fun _ => True
/-- iter, for the target tg, walks these items -/
def IJ (X : Cx) (R : Addr → Prop) (tg iter : Expr) (ss : List Kd) (O : Store) (n : Nat) (item : Nat → Kd) (need : Store → Prop) (O' : Store) : Prop :=
  ∃ wi : TI, PI X tg iter wi ∧ ∀ G0 H0 G H σ, Sta G0 H0 G H σ ss O → Lt X R H0 → ∀ Rr : It → Hp → Prop, (∀ G' H' J, Sta G0 H0 G' H' σ ss O' → Ex G G' → Walks J G' n item need → Rr J H') → wi σ H Rr
/-- a target's store -/
def GJ (g : TG) (ix : List Nat) (k : Kd) (ss : List Kd) (O : Store) (Ψ : List Kd → Store → Prop) : Prop :=
  ∀ G0 H0 G H σ v, Sta G0 H0 G H σ ss O → KdAt G v k → ∀ Q : L2.St → Hp → Prop, (∀ G' H' σ' ss' O', Sta G0 H0 G' H' σ' ss' O' → Ex G G' → (∀ i, i ∉ ix → σ'[i]? = σ[i]?) → σ'.length = σ.length → Ψ ss' O' → Q σ' H') → g v σ H Q

theorem slots_len {G : Hp} {σ : L2.St} {ss : List Kd} (h : Slots G σ ss) : σ.length = ss.length := paired_len h
section
variable {X : Cx} {R : Addr → Prop} {e a b c tg iter : Expr} {es : List Expr} {ss : List Kd} {O O1 O2 O' : Store} {k ka kb : Kd} {ks : List Kd} {Φ : Kd → Store → Prop} {Ψ : List Kd → Store → Prop} {pos : Pos} {st : Stmt} {sts rest body : List Stmt} {D : DE} {g : TG} {n : Nat} {item : Nat → Kd} {need : Store → Prop} {ix : List Nat}
theorem gj_name (i : Nat) (h : Ψ (ss.set i k) O) : GJ (gName i) [i] k ss O Ψ := fun G0 H0 G H σ v S r Q q =>
  q G H _ _ O (S.set i r) (Ex.refl G) (fun j hj => List.getElem?_set_ne (by simpa [eq_comm] using hj)) (by simp) h
theorem gj_tup2 {K : PySem.W.Frag} (i j : Nat) {d1 d2 : PyData} (h : Ψ ((ss.set i (.dat d1)).set j (.dat d2)) O) : GJ (gTup K 2 (gCons (gName i) (gCons (gName j) gNil))) [i, j] (.dat (.tuple [d1, d2])) ss O Ψ := fun G0 H0 G H σ v S r Q q => by
  obtain ⟨p, xs, rfl, g1, r1⟩ := dp_tup r
  obtain ⟨v1, v2, rfl, h1, h2⟩ : ∃ v1 v2, xs = [v1, v2] ∧ DP G v1 d1 ∧ DP G v2 d2 := by
    cases r1 with
    | cons a t => cases t with
      | cons b t => cases t; exact ⟨_, _, rfl, a, b⟩
  refine ⟨p, _, rfl, .of (S.gh _ _ g1), rfl, v1, [v2], rfl, v2, [], rfl, rfl, ?_⟩
  refine q G H _ _ O ((S.set i (k := .dat d1) h1).set j (k := .dat d2) h2) (Ex.refl G) (fun l hl => ?_) (by simp) h
  have : l ≠ i ∧ l ≠ j := by simpa using hl
  rw [List.getElem?_set_ne (Ne.symm this.2), List.getElem?_set_ne (Ne.symm this.1)]

/-- a list, a tuple of data -/
theorem ij_list {ds : List PyData} (h : EV X R iter ss O (.dat (.list ds)) O') : IJ X R tg iter ss O ds.length (fun i => .dat (ds.getD i .none)) any O' := ⟨_, pi_list peW, fun G0 H0 G H σ S L Rr q =>
  h G0 H0 G H σ S L _ fun G1 H1 v k O1 S1 e1 r1 ⟨h1, h2⟩ => by
    subst h1 h2
    obtain ⟨p, xs, rfl, g1, r⟩ := dp_lst r1
    refine ⟨p, rfl, ⟨xs, .of (S1.gh _ _ g1)⟩, q G1 H1 _ S1 e1 ⟨fun i G0 H0 G' H' σ ss O S2 e2 _ hi => ?_, fun i G0 H0 G' H' σ ss O x H2 S2 e2 _ hi y => ?_, fun G0 H0 G' H' σ ss O S2 e2 _ => ?_⟩⟩
    · obtain ⟨v, hv, _⟩ := dpAll_get r (List.getElem?_eq_getElem hi)
      exact ⟨xs, v, .of (S2.gh _ _ (e2 _ _ g1)), hv⟩
    · obtain ⟨rfl, y⟩ := y
      obtain ⟨v, hv, dv⟩ := dpAll_get r (List.getElem?_eq_getElem hi)
      have := (y xs (.of (S2.gh _ _ (e2 _ _ g1)))).symm.trans hv
      cases this
      refine ⟨G', S2, Ex.refl _, ?_⟩
      show DP G' x (ds.getD i .none)
      rw [List.getD_eq_getElem?_getD, List.getElem?_eq_getElem hi]
      exact dp_ex e2 dv
    · exact ⟨xs, .of (S2.gh _ _ (e2 _ _ g1)), Nat.le_of_eq (dps_len r)⟩⟩
theorem ij_tup {ds : List PyData} (h : EV X R iter ss O (.dat (.tuple ds)) O') : IJ X R tg iter ss O ds.length (fun i => .dat (ds.getD i .none)) any O' := ⟨_, pi_tup peW, fun G0 H0 G H σ S L Rr q =>
  h G0 H0 G H σ S L _ fun G1 H1 v k O1 S1 e1 r1 ⟨h1, h2⟩ => by
    subst h1 h2
    obtain ⟨p, xs, rfl, g1, r⟩ := dp_tup r1
    refine ⟨p, rfl, ⟨xs, .of (S1.gh _ _ g1)⟩, q G1 H1 _ S1 e1 ⟨fun i G0 H0 G' H' σ ss O S2 e2 _ hi => ?_, fun i G0 H0 G' H' σ ss O x H2 S2 e2 _ hi y => ?_, fun G0 H0 G' H' σ ss O S2 e2 _ => ?_⟩⟩
    · obtain ⟨v, hv, _⟩ := dpAll_get r (List.getElem?_eq_getElem hi)
      exact ⟨xs, v, .of (S2.gh _ _ (e2 _ _ g1)), hv⟩
    · obtain ⟨rfl, y⟩ := y
      obtain ⟨v, hv, dv⟩ := dpAll_get r (List.getElem?_eq_getElem hi)
      have := (y xs (.of (S2.gh _ _ (e2 _ _ g1)))).symm.trans hv
      cases this
      refine ⟨G', S2, Ex.refl _, ?_⟩
      show DP G' x (ds.getD i .none)
      rw [List.getD_eq_getElem?_getD, List.getElem?_eq_getElem hi]
      exact dp_ex e2 dv
    · exact ⟨xs, .of (S2.gh _ _ (e2 _ _ g1)), Nat.le_of_eq (dps_len r)⟩⟩
/-- an owned list of own things -/
theorem ij_own {p : Addr} {vs : List V} (h : EV X R iter ss O (.val (.ref p)) O') (hm : (p, Ob.raw (.lst vs)) ∈ O') : IJ X R tg iter ss O vs.length (fun i => .val (vs.getD i .non)) (fun O => (p, Ob.raw (.lst vs)) ∈ O) O' := ⟨_, pi_list peW, fun G0 H0 G H σ S L Rr q =>
  h G0 H0 G H σ S L _ fun G1 H1 v k O1 S1 e1 r1 ⟨h1, h2⟩ => by
    subst h1 h2
    have : v = .ref p := r1
    subst this
    have g : ∀ {G0 H0 G H : Hp} {σ : L2.St} {ss : List Kd} {O : Store}, Sta G0 H0 G H σ ss O → (p, Ob.raw (.lst vs)) ∈ O → H p = some (.lst vs) := fun S hq => (S.ob _ hq).1
    refine ⟨p, rfl, ⟨vs, .of (g S1 hm)⟩, q G1 H1 _ S1 e1 ⟨fun i G0 H0 G' H' σ ss O S2 e2 hn hi => ?_, fun i G0 H0 G' H' σ ss O x H2 S2 e2 hn hi y => ?_, fun G0 H0 G' H' σ ss O S2 e2 hn => ?_⟩⟩
    · exact ⟨vs, vs[i], .of (g S2 hn), List.getElem?_eq_getElem hi⟩
    · obtain ⟨rfl, y⟩ := y
      have := y vs (.of (g S2 hn))
      refine ⟨G', S2, Ex.refl _, ?_⟩
      show x = vs.getD i .non
      rw [List.getD_eq_getElem?_getD, this]
      rfl
    · exact ⟨vs, .of (g S2 hn), Nat.le_refl _⟩⟩
theorem ij_str {s : List Nat} (h : EV X R iter ss O (.dat (dS s)) O') : IJ X R tg iter ss O s.length (fun i => .dat (dS [s.getD i 0])) any O' := ⟨_, pi_str peW, fun G0 H0 G H σ S L Rr q =>
  h G0 H0 G H σ S L _ fun G1 H1 v k O1 S1 e1 r1 ⟨h1, h2⟩ => by
    subst h1 h2
    refine ⟨sL s, dp_str r1, q G1 H1 _ S1 e1 ⟨fun i G0 H0 G' H' σ ss O S2 e2 _ hi => ?_, fun i G0 H0 G' H' σ ss O x H2 S2 e2 _ hi y => ?_, fun G0 H0 G' H' σ ss O S2 e2 _ => ?_⟩⟩
    · show i < (sL s).length
      rw [sL_len]; exact hi
    · obtain ⟨rfl, c, hc, rfl⟩ := y
      refine ⟨G', S2, Ex.refl _, ?_⟩
      have : s[i]? = some c := by simpa using hc
      show DP G' (.str ⟨#[c]⟩) (dS [s.getD i 0])
      rw [List.getD_eq_getElem?_getD, this]
      exact DP.str _
    · show (sL s).length ≤ s.length
      rw [sL_len]; exact Nat.le_refl _⟩
theorem ij_range1 {m : Int} {p : Pos} {x : Str} (h : EV X R e ss O (.dat (.int m)) O') (h1 : -(2 ^ 62) ≤ m) (h2 : m < 2 ^ 62) (hm : X.mg "range" = none) (hx : x = "range" := by rfl) (hg : Gl X x := by rfl) (hs : starEach [e] X.env = [(false, eval e X.env)] := by exact star_ne rfl) : IJ X R tg (.Call (.Name x p) [e] [] pos) ss O m.toNat (fun i => .dat (.int i)) any O' := by
  subst hx
  refine ⟨_, pi_range1 hg hm paW hs, fun G0 H0 G H σ S L Rr q => (av_cons h av_nil hs) G0 H0 G H σ S L _ fun G1 H1 vs k O1 S1 e1 r1 ⟨h3, h4⟩ => ?_⟩
  subst h3 h4
  obtain ⟨v, rfl, r⟩ := kinds1 r1
  refine ⟨m, by rw [dp_int r], h1, h2, q G1 H1 _ S1 e1 ⟨fun i G0 H0 G' H' σ ss O S2 e2 _ hi => hi, fun i G0 H0 G' H' σ ss O x H2 S2 e2 _ hi y => ?_, fun G0 H0 G' H' σ ss O S2 e2 _ => Nat.le_refl _⟩⟩
  obtain ⟨rfl, rfl⟩ := y
  refine ⟨G', S2, Ex.refl _, ?_⟩
  rw [Int.zero_add]
  exact DP.int _
theorem ij_range2 {l m : Int} {p : Pos} {x : Str} (h : EV X R a ss O (.dat (.int l)) O1) (h' : EV X R b ss O1 (.dat (.int m)) O') (h1 : -(2 ^ 62) ≤ l ∧ l < 2 ^ 62 ∧ -(2 ^ 62) ≤ m ∧ m < 2 ^ 62) (hm : X.mg "range" = none) (hx : x = "range" := by rfl) (hg : Gl X x := by rfl)
    (hs : starEach [a, b] X.env = [(false, eval a X.env), (false, eval b X.env)] := by exact star_ne rfl) (hs2 : starEach [b] X.env = [(false, eval b X.env)] := by exact star_ne rfl) : IJ X R tg (.Call (.Name x p) [a, b] [] pos) ss O (m - l).toNat (fun i => .dat (.int (l + i))) any O' := by
  subst hx
  refine ⟨_, pi_range2 hg hm paW hs hs2, fun G0 H0 G H σ S L Rr q => (av_cons h (av_cons h' av_nil hs2) (by rw [hs, hs2])) G0 H0 G H σ S L _ fun G1 H1 vs k O1 S1 e1 r1 ⟨h3, h4⟩ => ?_⟩
  subst h3 h4
  obtain ⟨v, w, rfl, r, r'⟩ := kinds2 r1
  refine ⟨l, m, by rw [dp_int r, dp_int r'], h1, q G1 H1 _ S1 e1 ⟨fun i G0 H0 G' H' σ ss O S2 e2 _ hi => hi, fun i G0 H0 G' H' σ ss O x H2 S2 e2 _ hi y => ?_, fun G0 H0 G' H' σ ss O S2 e2 _ => Nat.le_refl _⟩⟩
  obtain ⟨rfl, rfl⟩ := y
  exact ⟨G', S2, Ex.refl _, DP.int _⟩
/-- range(n - 1, -1, -1) and its like -/
theorem ij_range3 {l m s : Int} {n : Nat} {p : Pos} {x : Str} (h : EV X R a ss O (.dat (.int l)) O1) (h' : EV X R b ss O1 (.dat (.int m)) O2) (h'' : EV X R c ss O2 (.dat (.int s)) O') (hr : RgC l m s n) (hm : X.mg "range" = none) (hx : x = "range" := by rfl) (hg : Gl X x := by rfl)
    (hs : starEach [a, b, c] X.env = (false, eval a X.env) :: starEach [b, c] X.env := by exact star_ne rfl) (hs2 : starEach [b, c] X.env = (false, eval b X.env) :: starEach [c] X.env := by exact star_ne rfl) (hs3 : starEach [c] X.env = (false, eval c X.env) :: starEach [] X.env := by exact star_ne rfl) (hpl : (backTo pos (starEach [b, c] X.env)).any (·.1) = false := by rfl) :
    IJ X R tg (.Call (.Name x p) [a, b, c] [] pos) ss O n (fun i => .dat (.int (l + i * s))) any O' := by
  subst hx
  refine ⟨_, pi_range3 hg hm paW hs hpl, fun G0 H0 G H σ S L Rr q => (av_cons h (av_cons h' (av_cons h'' av_nil hs3) hs2) hs) G0 H0 G H σ S L _ fun G1 H1 vs k O1 S1 e1 r1 ⟨h3, h4⟩ => ?_⟩
  subst h3 h4
  obtain ⟨v, w, u, rfl, r, r', r''⟩ : ∃ v w u, vs = [v, w, u] ∧ KdAt G1 v (.dat (.int l)) ∧ KdAt G1 w (.dat (.int m)) ∧ KdAt G1 u (.dat (.int s)) := by
    cases r1 with
    | cons a t => obtain ⟨w, u, rfl, r', r''⟩ := kinds2 t; exact ⟨_, w, u, rfl, a, r', r''⟩
  refine ⟨l, m, s, n, by rw [dp_int r, dp_int r', dp_int r''], hr, q G1 H1 _ S1 e1 ⟨fun i G0 H0 G' H' σ ss O S2 e2 _ hi => hi, fun i G0 H0 G' H' σ ss O x H2 S2 e2 _ hi y => ?_, fun G0 H0 G' H' σ ss O S2 e2 _ => Nat.le_refl _⟩⟩
  obtain ⟨rfl, rfl⟩ := y
  exact ⟨G', S2, Ex.refl _, DP.int _⟩
theorem dpk_get {G : Hp} : ∀ {ws : List (Key × V)} {kvs : List (Str × PyData)} {i : Nat} {s : Str} {d : PyData}, KvD G ws kvs → kvs[i]? = some (s, d) → ∃ v, ws[i]? = some (.inr s, v) ∧ DP G v d := fun {ws kvs i s d} h e => by
  obtain ⟨⟨x, v⟩, h1, h2, h3⟩ := paired_get h e
  have : x = .inr s := h2
  subst this
  exact ⟨v, h1, h3⟩
theorem dp_dict {G : Hp} {x : V} {kvs : List (Str × PyData)} (h : DP G x (dK kvs)) : ∃ a o ws, x = .ref a ∧ G a = some (.frz o (.dK ws)) ∧ KvD G ws kvs := by
  unfold dK at h
  cases h with
  | dct h a => exact ⟨_, _, _, rfl, h, dpk_of a⟩
theorem kv_len {G : Hp} {ws : List (Key × V)} {kvs : List (Str × PyData)} (h : KvD G ws kvs) : ws.length = kvs.length := paired_len h
/-- for x in d; d.keys() alike -/
theorem ij_keys {kvs : List (Str × PyData)} (h : EV X R iter ss O (.dat (dK kvs)) O') : IJ X R tg iter ss O kvs.length (fun i => .dat (.str (kvs.getD i (⟨#[]⟩, .none)).1)) any O' := ⟨_, pi_keys peW, fun G0 H0 G H σ S L Rr q =>
  h G0 H0 G H σ S L _ fun G1 H1 v k O1 S1 e1 r1 ⟨h1, h2⟩ => by
    subst h1 h2
    obtain ⟨p, o, ws, rfl, g1, r⟩ := dp_dict r1
    refine ⟨p, o, rfl, .inl ⟨ws, S1.gh _ _ g1, q G1 H1 _ S1 e1 ⟨fun i G0 H0 G' H' σ ss O S2 e2 _ hi => ⟨S2.gh _ _ (e2 _ _ g1), by rw [kv_len r]; exact hi⟩, fun i G0 H0 G' H' σ ss O x H2 S2 e2 _ hi y => ?_, fun G0 H0 G' H' σ ss O S2 e2 _ => ⟨S2.gh _ _ (e2 _ _ g1), Nat.le_of_eq (kv_len r)⟩⟩⟩⟩
    obtain ⟨rfl, k, v, hk, rfl⟩ := y
    obtain ⟨⟨s, d⟩, hs⟩ : ∃ q, kvs[i]? = some q := ⟨_, List.getElem?_eq_getElem hi⟩
    obtain ⟨v', hv', _⟩ := dpk_get r hs
    rw [hk] at hv'
    cases hv'
    refine ⟨G', S2, Ex.refl _, ?_⟩
    show DP G' (.str s) (.str (kvs.getD i (⟨#[]⟩, .none)).1)
    rw [List.getD_eq_getElem?_getD, hs]
    exact DP.str _⟩
/-- for k, v in d.items() -/
theorem ij_items {kvs : List (Str × PyData)} {elts : List Expr} {kk : Nat} {tpos apos cpos : Pos} (h : EV X R e ss O (.dat (dK kvs)) O') (hbase : attributeBase e "items" X.env (eval e X.env) = eval e X.env := by rfl) (hline : (apos.endLine == cpos.line) = true := by rfl) :
    IJ X R (.Tuple elts kk tpos) (.Call (.Attribute e "items" apos) [] [] cpos) ss O kvs.length (fun i => .dat (.tuple [.str (kvs.getD i (⟨#[]⟩, .none)).1, (kvs.getD i (⟨#[]⟩, .none)).2])) any O' := ⟨_, pi_items peW hbase hline, fun G0 H0 G H σ S L Rr q =>
  h G0 H0 G H σ S L _ fun G1 H1 v k O1 S1 e1 r1 ⟨h1, h2⟩ => by
    subst h1 h2
    obtain ⟨p, o, ws, rfl, g1, r⟩ := dp_dict r1
    refine ⟨p, o, ws, rfl, S1.gh _ _ g1, q G1 H1 _ S1 e1 ⟨fun i G0 H0 G' H' σ ss O S2 e2 _ hi => ⟨S2.gh _ _ (e2 _ _ g1), by rw [kv_len r]; exact hi⟩, fun i G0 H0 G' H' σ ss O x H2 S2 e2 _ hi y => ?_, fun G0 H0 G' H' σ ss O S2 e2 _ => ⟨S2.gh _ _ (e2 _ _ g1), Nat.le_of_eq (kv_len r)⟩⟩⟩
    obtain ⟨T, k, v, hk, rfl, hT, rfl⟩ := y
    obtain ⟨⟨s, d⟩, hs⟩ : ∃ q, kvs[i]? = some q := ⟨_, List.getElem?_eq_getElem hi⟩
    obtain ⟨v', hv', dv⟩ := dpk_get r hs
    rw [hk] at hv'
    cases hv'
    have eg : Ex G' (upd G' T (.tup [.str s, v])) := Ex.new (S2.free hT)
    refine ⟨_, S2.data hT _, eg, ?_⟩
    simp only [List.getD_eq_getElem?_getD, hs, Option.getD_some]
    exact .tup upd_same (.cons (.str s) (.cons (dp_ex (e2.trans eg) dv) .nil))⟩
/-- zip of two tuples, of two lists -/
theorem ij_zipT {d1 d2 : List PyData} {elts : List Expr} {kk : Nat} {p tpos : Pos} {x : Str} (h : EV X R a ss O (.dat (.tuple d1)) O1) (h' : EV X R b ss O1 (.dat (.tuple d2)) O') (hm : X.mg "zip" = none) (hx : x = "zip" := by rfl) (hg : Gl X x := by rfl)
    (hs : starEach [a, b] X.env = (false, eval a X.env) :: starEach [b] X.env := by exact star_ne rfl) (hs2 : starEach [b] X.env = (false, eval b X.env) :: starEach [] X.env := by exact star_ne rfl) (hpl : (backTo pos (starEach [b] X.env)).any (·.1) = false := by rfl) :
    IJ X R (.Tuple elts kk tpos) (.Call (.Name x p) [a, b] [] pos) ss O (min d1.length d2.length) (fun i => .dat (.tuple [d1.getD i .none, d2.getD i .none])) any O' := by
  subst hx
  refine ⟨_, RZ.pi_zipA hg hm paW hs hpl, fun G0 H0 G H σ S L Rr q => (av_cons h (av_cons h' av_nil hs2) hs) G0 H0 G H σ S L _ fun G1 H1 vs k O1 S1 e1 r1 ⟨h3, h4⟩ => ?_⟩
  subst h3 h4
  obtain ⟨v, w, rfl, r, r'⟩ := kinds2 r1
  obtain ⟨p1, xs, rfl, g1, t1⟩ := dp_tup r
  obtain ⟨p2, ys, rfl, g2, t2⟩ := dp_tup r'
  refine ⟨p1, p2, xs, ys, rfl, .inr ⟨.of (S1.gh _ _ g1), .of (S1.gh _ _ g2), q G1 H1 _ S1 e1 ⟨fun i G0 H0 G' H' σ ss O S2 e2 _ hi => ?_, fun i G0 H0 G' H' σ ss O x H2 S2 e2 _ hi y => ?_, fun G0 H0 G' H' σ ss O S2 e2 _ => ?_⟩⟩⟩
  · obtain ⟨v1, hv1, _⟩ := dpAll_get t1 (List.getElem?_eq_getElem (Nat.lt_of_lt_of_le hi (Nat.min_le_left _ _)))
    obtain ⟨v2, hv2, _⟩ := dpAll_get t2 (List.getElem?_eq_getElem (Nat.lt_of_lt_of_le hi (Nat.min_le_right _ _)))
    exact ⟨xs, ys, v1, v2, .of (S2.gh _ _ (e2 _ _ g1)), .of (S2.gh _ _ (e2 _ _ g2)), hv1, hv2⟩
  · have l1 := Nat.lt_of_lt_of_le hi (Nat.min_le_left _ _)
    have l2 := Nat.lt_of_lt_of_le hi (Nat.min_le_right _ _)
    obtain ⟨v1, hv1, dv1⟩ := dpAll_get t1 (List.getElem?_eq_getElem l1)
    obtain ⟨v2, hv2, dv2⟩ := dpAll_get t2 (List.getElem?_eq_getElem l2)
    obtain ⟨T, x1, x2, rfl, hT, rfl, f1, f2⟩ := y
    have z1 : x1 = v1 := Option.some.inj ((f1 xs (.of (S2.gh _ _ (e2 _ _ g1)))).symm.trans hv1)
    have z2 : x2 = v2 := Option.some.inj ((f2 ys (.of (S2.gh _ _ (e2 _ _ g2)))).symm.trans hv2)
    subst z1 z2
    have eg : Ex G' (upd G' T (.tup [x1, x2])) := Ex.new (S2.free hT)
    refine ⟨_, S2.data hT _, eg, ?_⟩
    simp only [List.getD_eq_getElem?_getD, List.getElem?_eq_getElem l1, List.getElem?_eq_getElem l2, Option.getD_some]
    exact .tup upd_same (.cons (dp_ex (e2.trans eg) dv1) (.cons (dp_ex (e2.trans eg) dv2) .nil))
  · refine ⟨xs, ys, .of (S2.gh _ _ (e2 _ _ g1)), .of (S2.gh _ _ (e2 _ _ g2)), ?_⟩
    rw [dps_len t1, dps_len t2]
    omega
theorem ij_zipL {d1 d2 : List PyData} {elts : List Expr} {kk : Nat} {p tpos : Pos} {x : Str} (h : EV X R a ss O (.dat (.list d1)) O1) (h' : EV X R b ss O1 (.dat (.list d2)) O') (hm : X.mg "zip" = none) (hx : x = "zip" := by rfl) (hg : Gl X x := by rfl)
    (hs : starEach [a, b] X.env = (false, eval a X.env) :: starEach [b] X.env := by exact star_ne rfl) (hs2 : starEach [b] X.env = (false, eval b X.env) :: starEach [] X.env := by exact star_ne rfl) (hpl : (backTo pos (starEach [b] X.env)).any (·.1) = false := by rfl) :
    IJ X R (.Tuple elts kk tpos) (.Call (.Name x p) [a, b] [] pos) ss O (min d1.length d2.length) (fun i => .dat (.tuple [d1.getD i .none, d2.getD i .none])) any O' := by
  subst hx
  refine ⟨_, pi_zip hg hm paW hs hpl, fun G0 H0 G H σ S L Rr q => (av_cons h (av_cons h' av_nil hs2) hs) G0 H0 G H σ S L _ fun G1 H1 vs k O1 S1 e1 r1 ⟨h3, h4⟩ => ?_⟩
  subst h3 h4
  obtain ⟨v, w, rfl, r, r'⟩ := kinds2 r1
  obtain ⟨p1, xs, rfl, g1, t1⟩ := dp_lst r
  obtain ⟨p2, ys, rfl, g2, t2⟩ := dp_lst r'
  refine ⟨p1, p2, xs, ys, rfl, .of (S1.gh _ _ g1), .of (S1.gh _ _ g2), q G1 H1 _ S1 e1 ⟨fun i G0 H0 G' H' σ ss O S2 e2 _ hi => ?_, fun i G0 H0 G' H' σ ss O x H2 S2 e2 _ hi y => ?_, fun G0 H0 G' H' σ ss O S2 e2 _ => ?_⟩⟩
  · obtain ⟨v1, hv1, _⟩ := dpAll_get t1 (List.getElem?_eq_getElem (Nat.lt_of_lt_of_le hi (Nat.min_le_left _ _)))
    obtain ⟨v2, hv2, _⟩ := dpAll_get t2 (List.getElem?_eq_getElem (Nat.lt_of_lt_of_le hi (Nat.min_le_right _ _)))
    exact ⟨xs, ys, v1, v2, .of (S2.gh _ _ (e2 _ _ g1)), .of (S2.gh _ _ (e2 _ _ g2)), hv1, hv2⟩
  · have l1 := Nat.lt_of_lt_of_le hi (Nat.min_le_left _ _)
    have l2 := Nat.lt_of_lt_of_le hi (Nat.min_le_right _ _)
    obtain ⟨v1, hv1, dv1⟩ := dpAll_get t1 (List.getElem?_eq_getElem l1)
    obtain ⟨v2, hv2, dv2⟩ := dpAll_get t2 (List.getElem?_eq_getElem l2)
    obtain ⟨T, x1, x2, rfl, hT, rfl, f1, f2⟩ := y
    have z1 : x1 = v1 := Option.some.inj ((f1 xs (.of (S2.gh _ _ (e2 _ _ g1)))).symm.trans hv1)
    have z2 : x2 = v2 := Option.some.inj ((f2 ys (.of (S2.gh _ _ (e2 _ _ g2)))).symm.trans hv2)
    subst z1 z2
    have eg : Ex G' (upd G' T (.tup [x1, x2])) := Ex.new (S2.free hT)
    refine ⟨_, S2.data hT _, eg, ?_⟩
    simp only [List.getD_eq_getElem?_getD, List.getElem?_eq_getElem l1, List.getElem?_eq_getElem l2, Option.getD_some]
    exact .tup upd_same (.cons (dp_ex (e2.trans eg) dv1) (.cons (dp_ex (e2.trans eg) dv2) .nil))
  · refine ⟨xs, ys, .of (S2.gh _ _ (e2 _ _ g1)), .of (S2.gh _ _ (e2 _ _ g2)), ?_⟩
    rw [dps_len t1, dps_len t2]
    omega

/-! ### for -/
theorem s1_for (Inv : Nat → List Kd → Store → Prop) (hi : IJ X R tg iter ss O n item need O') (hg : PG X tg g) (hp : PassesOwn (model X.prog X.w) X.A X.env X.xe) (hc : X.calm = true) (h0 : Inv 0 ss O') (hn : ∀ i ss O, Inv i ss O → need O)
    (hb : ∀ i ss1 O1, i < n → Inv i ss1 O1 → GJ g ix (item i) ss1 O1 fun ss2 O2 => SJ X R body ss2 O2 { D with nx := Inv (i + 1), ct := Inv (i + 1), bk := D.nx }) (hd : ∀ ss1 O1, Inv n ss1 O1 → D.nx ss1 O1)
    (hs : ∀ x, foldedSetIterable iter X.env x = pure x := by intro _; rfl) : S1 X R (.For tg iter body [] pos) ss O D := fun G0 H0 G H σ S L E s => by
  obtain ⟨wi, hwi, w⟩ := hi
  refine wS_of (ps_for hp hc hwi hg pssW hs) (w G0 H0 G H σ S L _ fun G1 H1 J S1 e1 wk => ?_)
  refine ⟨fun i m σ' H' => m = n - i ∧ i ≤ n ∧ ∃ ss' O' G', Sta G0 H0 G' H' σ' ss' O' ∧ Ex G1 G' ∧ Inv i ss' O', ⟨n, by simp, Nat.zero_le _, ss, O', G1, S1, Ex.refl _, h0⟩, ?_⟩
  rintro i m σ' H' ⟨rfl, hi, ss', O2, G', S', e', iv⟩
  by_cases hlt : i < n
  · refine .inr ⟨wk.go i G0 H0 G' H' σ' ss' O2 S' e' (hn _ _ _ iv) hlt, fun σ2 H2 => ∃ ss2 O3 G2, Sta G0 H0 G2 H2 σ2 ss2 O3 ∧ Ex G1 G2 ∧ Inv (i + 1) ss2 O3, fun σ2 H2 ⟨ss2, O3, G2, S2, e2, iv2⟩ => ⟨n - (i + 1), by omega, rfl, by omega, ss2, O3, G2, S2, e2, iv2⟩, fun x H2 y => ?_⟩
    obtain ⟨G2, S2, e2, dx⟩ := wk.yld i G0 H0 G' H' σ' ss' O2 x H2 S' e' (hn _ _ _ iv) hlt y
    refine hb i ss' O2 hlt iv G0 H0 G2 H2 σ' x S2 dx _ fun G3 H3 σ3 ss3 O3 S3 e3 _ _ sj => ?_
    refine sj G0 H0 G3 H3 σ3 S3 L _ ⟨fun G4 H4 σ4 ss4 O4 S4 e4 p => ⟨ss4, O4, G4, S4, (((e'.trans e2).trans e3).trans e4), p⟩, fun G4 H4 σ4 ss4 v k O4 S4 e4 r p => s.rt G4 H4 σ4 ss4 v k O4 S4 ((((e1.trans e').trans e2).trans e3).trans e4) r p,
      fun G4 H4 σ4 ss4 O4 S4 e4 p => s.nx G4 H4 σ4 ss4 O4 S4 ((((e1.trans e').trans e2).trans e3).trans e4) p, fun G4 H4 σ4 ss4 O4 S4 e4 p => ⟨ss4, O4, G4, S4, (((e'.trans e2).trans e3).trans e4), p⟩⟩
  · have e : i = n := by omega
    subst e
    exact .inl ⟨wk.stop G0 H0 G' H' σ' ss' O2 S' e' (hn _ _ _ iv), s.nx G' H' σ' ss' O2 S' (e1.trans e') (hd _ _ iv)⟩
/-- while -/
theorem s1_while (Inv : Nat → List Kd → Store → Prop) (m0 : Nat) (hp : PassesOwn (model X.prog X.w) X.A X.env X.xe) (h0 : Inv m0 ss O)
    (hb : ∀ m ss1 O1, Inv m ss1 O1 → ∃ b' O2, TV X R c ss1 O1 b' O2 ∧ (b' = true → ∃ N : List Kd → Store → Prop, (∀ ss2 O3, N ss2 O3 → ∃ m', m' < m ∧ Inv m' ss2 O3) ∧ SJ X R body ss1 O2 { D with nx := N, ct := N, bk := D.nx }) ∧ (b' = false → D.nx ss1 O2)) : S1 X R (.While c body [] pos) ss O D := fun G0 H0 G H σ S L E s => by
  refine wS_of (ps_while hp ptW pssW) ⟨fun m σ' H' => ∃ ss' O' G', Sta G0 H0 G' H' σ' ss' O' ∧ Ex G G' ∧ Inv m ss' O', ⟨m0, ss, O, G, S, Ex.refl _, h0⟩, ?_⟩
  rintro m σ' H' ⟨ss', O1, G', S', e', iv⟩
  obtain ⟨b', O2, tc, h1, h2⟩ := hb m ss' O1 iv
  refine tc G0 H0 G' H' σ' S' L _ fun G1 H1 v O3 S1 e1 ⟨h3, h4⟩ => ?_
  subst h3 h4
  cases v with
  | true =>
    obtain ⟨N, hN, sj⟩ := h1 rfl
    rw [if_pos rfl]
    refine ⟨fun σ2 H2 => ∃ ss2 O3 G2, Sta G0 H0 G2 H2 σ2 ss2 O3 ∧ Ex G G2 ∧ N ss2 O3, fun σ2 H2 ⟨ss2, O3, G2, S2, e2, n2⟩ => ?_, ?_⟩
    · obtain ⟨m', hm, iv'⟩ := hN _ _ n2
      exact ⟨m', hm, ss2, O3, G2, S2, e2, iv'⟩
    · exact sj G0 H0 G1 H1 σ' S1 L _ ⟨fun G4 H4 σ4 ss4 O4 S4 e4 p => ⟨ss4, O4, G4, S4, (e'.trans e1).trans e4, p⟩, fun G4 H4 σ4 ss4 v k O4 S4 e4 r p => s.rt G4 H4 σ4 ss4 v k O4 S4 ((e'.trans e1).trans e4) r p,
        fun G4 H4 σ4 ss4 O4 S4 e4 p => s.nx G4 H4 σ4 ss4 O4 S4 ((e'.trans e1).trans e4) p, fun G4 H4 σ4 ss4 O4 S4 e4 p => ⟨ss4, O4, G4, S4, (e'.trans e1).trans e4, p⟩⟩
  | false =>
    rw [if_neg Bool.false_ne_true]
    exact s.nx G1 H1 σ' ss' _ S1 (e'.trans e1) (h2 rfl)
end
end Dl
namespace Dl
open PySem PySem.Spec PyProof.Rows L2
open Evl (Ex)

/-! ### an object set aside -/
def aside (H0 H : Hp) (p : Addr) : Hp := fun a => if a = p then H p else H0 a
theorem aside_at {H0 H : Hp} {p : Addr} : aside H0 H p p = H p := if_pos rfl
theorem aside_ne {H0 H : Hp} {p a : Addr} (h : a ≠ p) : aside H0 H p a = H0 a := if_neg h
section
variable {G0 H0 G H : Hp} {σ : L2.St} {ss : List Kd} {O : Store}
theorem aside_le {p : Addr} (h : H0 p = none) : Ex H0 (aside H0 H p) := fun a o e => by
  have : a ≠ p := fun z => by rw [z, h] at e; cases e
  rw [aside_ne this]; exact e
theorem Sta.hide {p : Addr} {b : Ob} (S : Sta G0 H0 G H σ ss ((p, b) :: O)) : Sta G0 (aside H0 H p) G H σ ss O ∧ Ex H0 (aside H0 H p) := by
  obtain ⟨ob, gp, hp⟩ := S.ob _ List.mem_cons_self
  have np : p ∉ O.map (·.1) := (List.nodup_cons.mp S.nd).1
  refine ⟨⟨S.g0, fun a o e => ?_, S.gh, fun a o e => ?_, S.sl, (List.nodup_cons.mp S.nd).2, fun q hq => ?_⟩, aside_le hp⟩
  · by_cases ha : a = p
    · subst ha; rw [aside_at] at e; exact e
    · rw [aside_ne ha] at e; exact S.h0 a o e
  · by_cases ha : a = p
    · subst ha
      have : G a = none := gp
      rw [this] at e; cases e
    · rw [aside_ne ha]; exact S.fr a o e
  · obtain ⟨a, b, c⟩ := S.ob q (List.mem_cons_of_mem _ hq)
    have : q.1 ≠ p := fun z => np (List.mem_map.mpr ⟨q, hq, z⟩)
    exact ⟨a, b, by rw [aside_ne this]; exact c⟩
theorem Sta.unhide {p : Addr} {b : Ob} {H1 G1 H2 G2 : Hp} {σ' : L2.St} {ss' : List Kd} {O' : Store} (S : Sta G0 H0 G1 H1 σ ss ((p, b) :: O)) (S2 : Sta G0 (aside H0 H1 p) G2 H2 σ' ss' O') (e : Ex G1 G2) : Sta G0 H0 G2 H2 σ' ss' ((p, b) :: O') := by
  obtain ⟨ob, gp, hp⟩ := S.ob _ List.mem_cons_self
  obtain ⟨o, ho⟩ := ob_some ob
  have a0 : aside H0 H1 p p = some o := aside_at.trans ho
  have h2 : H2 p = H1 p := by rw [ho]; exact S2.h0 p o a0
  have le := aside_le (H := H1) hp
  have g2 : G2 p = none := by
    cases z : G2 p with
    | none => rfl
    | some u =>
      rcases S2.fr p u z with y | y
      · have y2 := S.g0 p u y
        have : G1 p = none := gp
        rw [this] at y2; cases y2
      · rw [a0] at y; cases y
  refine ⟨S2.g0, le.trans S2.h0, S2.gh, fun a u z => ?_, S2.sl, List.nodup_cons.mpr ⟨fun hm => ?_, S2.nd⟩, fun q hq => ?_⟩
  · rcases S2.fr a u z with y | y
    · exact .inl y
    · refine .inr ?_
      cases w : H0 a with
      | none => rfl
      | some v => rw [le a v w] at y; cases y
  · obtain ⟨q, hq, z⟩ := List.mem_map.mp hm
    have := (S2.ob q hq).2.2
    rw [z, a0] at this; cases this
  · rcases List.mem_cons.mp hq with rfl | hq
    · exact ⟨ob_ex e h2 ob, g2, hp⟩
    · obtain ⟨x, y, z⟩ := S2.ob q hq
      refine ⟨x, y, ?_⟩
      cases w : H0 q.1 with
      | none => rfl
      | some v => rw [le _ v w] at z; cases z
end
theorem Lt.mono {X : Cx} {R : Addr → Prop} {H0 H0' : Hp} (L : Lt X R H0) (e : Ex H0 H0') : Lt X R H0' := fun C hC σ H' e' => L C hC σ H' (e.trans e')
/-- what an expression does is done beside another object too -/
theorem EJ.frame {X : Cx} {R : Addr → Prop} {e : Expr} {ss : List Kd} {O : Store} {q : Addr × Ob} {Φ : Kd → Store → Prop} (h : EJ X R e ss O Φ) : EJ X R e ss (q :: O) fun k O' => ∃ O1, O' = q :: O1 ∧ Φ k O1 := fun G0 H0 G H σ S L Q w => by
  obtain ⟨S', le⟩ := S.hide
  exact h G0 _ G H σ S' (L.mono le) Q fun G1 H1 v k O1 S1 e1 r1 p1 => w G1 H1 v k _ (S.unhide S1 e1) e1 r1 ⟨O1, rfl, p1⟩
theorem TJ.frame {X : Cx} {R : Addr → Prop} {e : Expr} {ss : List Kd} {O : Store} {q : Addr × Ob} {Φ : Bool → Store → Prop} (h : TJ X R e ss O Φ) : TJ X R e ss (q :: O) fun k O' => ∃ O1, O' = q :: O1 ∧ Φ k O1 := fun G0 H0 G H σ S L Q w => by
  obtain ⟨S', le⟩ := S.hide
  exact h G0 _ G H σ S' (L.mono le) Q fun G1 H1 k O1 S1 e1 p1 => w G1 H1 k _ (S.unhide S1 e1) e1 ⟨O1, rfl, p1⟩

/-! ### comprehensions -/
def wipeK (ss : List Kd) : List Nat → List Kd
  | [] => ss
  | v :: vs => (wipeK ss vs).set v .und
theorem slots_wipe {G : Hp} {σ : L2.St} {ss : List Kd} (h : Slots G σ ss) : ∀ vs : List Nat, Slots G (wipe σ vs) (wipeK ss vs)
  | [] => h
  | v :: vs => by
    unfold wipe wipeK
    exact paired_set trivial v (slots_wipe h vs)
theorem wipe_get {σ : L2.St} {i : Nat} : ∀ {vs : List Nat}, (wipe σ vs)[i]? = if i ∈ vs ∧ i < σ.length then some none else σ[i]?
  | [] => by simp [wipe]
  | v :: vs => by
    unfold wipe
    by_cases h : v = i
    · subst h
      by_cases hl : v < σ.length
      · rw [List.getElem?_set_self (by rw [wipe_length]; exact hl), if_pos ⟨List.mem_cons_self, hl⟩]
      · rw [if_neg fun z => hl z.2, List.getElem?_eq_none (by rw [List.length_set, wipe_length]; omega), List.getElem?_eq_none (by omega)]
    · rw [List.getElem?_set_ne h, wipe_get]
      have : i ∈ v :: vs ↔ i ∈ vs := by simp [Ne.symm h]
      simp only [this]
theorem wipe_again {σ σ2 : L2.St} {vs ix : List Nat} (hx : ∀ i ∈ ix, i ∈ vs) (h : ∀ i, i ∉ ix → σ2[i]? = (wipe σ vs)[i]?) (hl : σ2.length = (wipe σ vs).length) : wipe σ2 vs = wipe σ vs := by
  rw [wipe_length] at hl
  refine List.ext_getElem? fun i => ?_
  rw [wipe_get, wipe_get, hl]
  by_cases c : i ∈ vs ∧ i < σ.length
  · rw [if_pos c, if_pos c]
  · rw [if_neg c, if_neg c]
    by_cases m : i ∈ ix
    · have : ¬ i < σ.length := fun z => c ⟨hx i m, z⟩
      rw [List.getElem?_eq_none (by omega), List.getElem?_eq_none (by omega)]
    · rw [h i m, wipe_get, if_neg c]
abbrev Bk (X : Cx) (scope : Scope) (s : Shared) (H : Hp) (C : Addr) (cl : List (Str × Addr)) (fp : List Addr) : Cx := X.blk s H scope (compEnvC scope cl C X.env) fp
def bE (X : Cx) (scope : Scope) (e : Expr) : TE := fun σ H Q => ∀ s H' C cl fp, wE (Bk X scope s H' C cl fp) e σ H Q
def bT (X : Cx) (scope : Scope) (e : Expr) : TT := fun σ H Q => ∀ s H' C cl fp, wT (Bk X scope s H' C cl fp) e σ H Q
/-- in the block of a comprehension -/
def BE (X : Cx) (scope : Scope) (e : Expr) (ss : List Kd) (O : Store) (Φ : Kd → Store → Prop) : Prop := ∀ s H C cl fp, EJ (Bk X scope s H C cl fp) No e ss O Φ
def BT (X : Cx) (scope : Scope) (e : Expr) (ss : List Kd) (O : Store) (Φ : Bool → Store → Prop) : Prop := ∀ s H C cl fp, TJ (Bk X scope s H C cl fp) No e ss O Φ
section
variable {X : Cx} {R : Addr → Prop} {e a b c tg iter elt : Expr} {es ifs : List Expr} {ss : List Kd} {O O1 O2 O' : Store} {k ka kb : Kd} {ks : List Kd} {Φ : Kd → Store → Prop} {pos : Pos} {D : DE} {g : TG} {n : Nat} {item : Nat → Kd} {need : Store → Prop} {ix : List Nat} {scope : Scope} {own : List (Str × Nat)}
/-- the reading of a comprehension -/
theorem lc_read {tt : TT} (Inv : Nat → List Kd → Store → Prop) (hix : ∀ i ∈ ix, i ∈ own.map (·.2))
    (hn : ∀ i acc O, Inv i acc O → need O) (hl : ∀ i acc O, Inv i acc O → acc.length ≤ i) (hm : n ≤ 16777216)
    (hb : ∀ i acc O2, i < n → Inv i acc O2 → GJ g ix (item i) (wipeK ss (own.map (·.2))) O2 fun ss2 O3 => ∀ G0 H0 G H σ2, Sta G0 H0 G H σ2 ss2 O3 → ∀ Q : Bool → Hp → Prop,
      (∀ G' H' b O4, Sta G0 H0 G' H' σ2 ss2 O4 → Ex G G' → (if b = true then BE X scope elt ss2 O4 fun k O5 => Inv (i + 1) (acc ++ [k]) O5 else Inv (i + 1) acc O4) → Q b H') → tt σ2 H Q)
    {wi : TI} {G0 H0 G H : Hp} {σ : L2.St} (w : ∀ Rr : It → Hp → Prop, (∀ G' H' J, Sta G0 H0 G' H' σ ss O1 → Ex G G' → Walks J G' n item need → Rr J H') → wi σ H Rr) (h0 : Inv 0 [] O1) (Q : VK)
    (q : ∀ G' H' p acc O2, Sta G0 H0 G' H' σ ss ((p, .okl acc) :: O2) → Ex G G' → Inv n acc O2 → Q (.ref p) H') : tLc wi g tt (bE X scope elt) (own.map (·.2)) σ H Q := by
  refine w _ fun G1 H1 J S1 e1 wk => ?_
  intro Dl hD
  have start : Sta G0 H0 G1 (upd H1 Dl (.lst [])) (wipe σ (own.map (·.2))) (wipeK ss (own.map (·.2))) ((Dl, .okl []) :: O1) := (S1.new hD (b := .okl []) ⟨[], upd_same, .nil⟩).slots (slots_wipe S1.sl _)
  refine ⟨fun i m H' => m = n - i ∧ i ≤ n ∧ ∃ acc O2 G', Sta G0 H0 G' H' (wipe σ (own.map (·.2))) (wipeK ss (own.map (·.2))) ((Dl, .okl acc) :: O2) ∧ Ex G1 G' ∧ Inv i acc O2, ⟨n, by simp, Nat.zero_le _, [], O1, G1, start, Ex.refl _, h0⟩, ?_⟩
  rintro i m H' ⟨rfl, hi, acc, O2, G', S', e', iv⟩
  obtain ⟨Sh, le⟩ := S'.hide
  by_cases hlt : i < n
  · refine .inr ⟨wk.go i _ _ G' H' _ _ O2 Sh e' (hn _ _ _ iv) hlt, fun H2 => ∃ acc O3 G2, Sta G0 H0 G2 H2 (wipe σ (own.map (·.2))) (wipeK ss (own.map (·.2))) ((Dl, .okl acc) :: O3) ∧ Ex G1 G2 ∧ Inv (i + 1) acc O3, fun H2 ⟨acc, O3, G2, S2, e2, iv2⟩ => ⟨n - (i + 1), by omega, rfl, by omega, acc, O3, G2, S2, e2, iv2⟩, fun x H2 y => ?_⟩
    obtain ⟨G2, S2, e2, dx⟩ := wk.yld i _ _ G' H' _ _ O2 x H2 Sh e' (hn _ _ _ iv) hlt y
    refine hb i acc O2 hlt iv _ _ G2 H2 _ x S2 dx _ fun G3 H3 σ3 ss3 O3 S3 e3 h3 l3 body => ?_
    refine ⟨wipe_again hix h3 l3, body _ _ G3 H3 σ3 S3 _ fun G4 H4 b O4 S4 e4 hb => ?_⟩
    have back : ∀ {G5 H5 : Hp} {O5 : Store}, Sta G0 (aside H0 H' Dl) G5 H5 σ3 ss3 O5 → Ex G4 G5 → Sta G0 H0 G5 H5 (wipe σ (own.map (·.2))) (wipeK ss (own.map (·.2))) ((Dl, .okl acc) :: O5) := fun {G5 H5 O5} S5 e5 =>
      (S'.unhide S5 (((e2.trans e3).trans e4).trans e5)).slots (slots_ex ((((e'.trans e2).trans e3).trans e4).trans e5) (slots_wipe S1.sl _))
    cases b with
    | true =>
      rw [if_pos rfl] at hb ⊢
      intro s Hb C cl fp
      refine hb s Hb C cl fp _ _ G4 H4 σ3 S4 Lt.no _ fun G5 H5 v k O5 S5 e5 r5 iv5 => ?_
      have S6 := back S5 e5
      obtain ⟨⟨vs, hv, rv⟩, _, _⟩ := S6.ob _ List.mem_cons_self
      have ev : vs.length = acc.length := paired_len rv
      have := hl i acc O2 iv
      refine ⟨vs, hv, by rw [ev, sizeLine_eq]; omega, acc ++ [k], O5, G5, ?_, (((e'.trans e2).trans e3).trans e4).trans e5, iv5⟩
      exact S6.put (i := 0) rfl (b := .okl (acc ++ [k])) ⟨vs ++ [v], upd_same, paired_app rv (.cons r5 .nil)⟩
    | false =>
      rw [if_neg Bool.false_ne_true] at hb ⊢
      exact ⟨acc, O4, G4, back S4 (Ex.refl _), ((e'.trans e2).trans e3).trans e4, hb⟩
  · have e : i = n := by omega
    subst e
    refine .inl ⟨wk.stop _ _ G' H' _ _ O2 Sh e' (hn _ _ _ iv), ?_⟩
    exact q _ _ _ _ _ (S'.slots (slots_ex e' S1.sl)) (e1.trans e') iv
theorem kinds_all {G : Hp} : ∀ {vs : List V} {ds : List PyData}, Paired (KdAt G) vs (ds.map .dat) → DPs G vs ds
  | _, [], h => by cases h; exact .nil
  | _, d :: ds, h => by
    cases h with
    | cons r t => exact .cons r (kinds_all t)
/-- what a comprehension makes -/
def LJ (X : Cx) (R : Addr → Prop) (elt tg iter : Expr) (ifs : List Expr) (scope : Scope) (ss : List Kd) (O : Store) (Φ : Addr → Store → Prop) : Prop :=
  ∃ (own : List (Str × Nat)) (g : TG) (tt : TT) (wi : TI), BlkOk X.N X.env.scope scope own ∧ PI X tg iter wi ∧ (∀ s H C cl fp, PG (Bk X scope s H C cl fp) tg g) ∧
    (∀ (s : Shared) (H : Hp) (C : Addr) (cl : List (Str × Addr)) (fp : List Addr), PTs (Bk X scope s H C cl fp) ifs tt) ∧
    ∀ G0 H0 G H σ, Sta G0 H0 G H σ ss O → Lt X R H0 → ∀ Q : VK, (∀ G' H' p O', Sta G0 H0 G' H' σ ss O' → Ex G G' → Φ p O' → Q (.ref p) H') → tLc wi g tt (bE X scope elt) (own.map (·.2)) σ H Q
theorem LJ.imp' {Φ Ψ : Addr → Store → Prop} (h : LJ X R elt tg iter ifs scope ss O Φ) (i : ∀ G0 H0 G H σ p O', Sta G0 H0 G H σ ss O' → Φ p O' → ∃ O'', Sta G0 H0 G H σ ss O'' ∧ Ψ p O'') : LJ X R elt tg iter ifs scope ss O Ψ := by
  obtain ⟨own, g, tt, wi, a, b, c, d, f⟩ := h
  refine ⟨own, g, tt, wi, a, b, c, d, fun G0 H0 G H σ S L Q q => f G0 H0 G H σ S L Q fun G' H' p O' S' e' p' => ?_⟩
  obtain ⟨O'', S'', p''⟩ := i _ _ _ _ _ _ _ S' p'
  exact q G' H' p O'' S'' e' p''
theorem lc_any {tt : TT} (Inv : Nat → List Kd → Store → Prop) (ok : BlkOk X.N X.env.scope scope own) (hi : IJ X R tg iter ss O n item need O1) (hg : ∀ s H C cl fp, PG (Bk X scope s H C cl fp) tg g) (hix : ∀ i ∈ ix, i ∈ own.map (·.2))
    (ht : ∀ (s : Shared) (H : Hp) (C : Addr) (cl : List (Str × Addr)) (fp : List Addr), PTs (Bk X scope s H C cl fp) ifs tt) (h0 : Inv 0 [] O1) (hn : ∀ i acc O, Inv i acc O → need O) (hl : ∀ i acc O, Inv i acc O → acc.length ≤ i) (hm : n ≤ 16777216)
    (hb : ∀ i acc O2, i < n → Inv i acc O2 → GJ g ix (item i) (wipeK ss (own.map (·.2))) O2 fun ss2 O3 => ∀ G0 H0 G H σ2, Sta G0 H0 G H σ2 ss2 O3 → ∀ Q : Bool → Hp → Prop,
      (∀ G' H' b O4, Sta G0 H0 G' H' σ2 ss2 O4 → Ex G G' → (if b = true then BE X scope elt ss2 O4 fun k O5 => Inv (i + 1) (acc ++ [k]) O5 else Inv (i + 1) acc O4) → Q b H') → tt σ2 H Q) :
    LJ X R elt tg iter ifs scope ss O fun p O' => ∃ acc O2, O' = (p, .okl acc) :: O2 ∧ Inv n acc O2 := by
  obtain ⟨wi, hwi, w⟩ := hi
  refine ⟨own, g, tt, wi, ok, hwi, hg, ht, fun G0 H0 G H σ S L Q q => ?_⟩
  exact lc_read Inv hix hn hl hm hb (w G0 H0 G H σ S L) h0 Q fun G' H' p acc O2 S' e' iv => q G' H' p _ S' e' ⟨acc, O2, rfl, iv⟩
/-- as a value -/
theorem ej_lcv {Φ : Addr → Store → Prop} (h : LJ X R elt tg iter ifs scope ss O Φ) (hN : X.N.Nodup) (hc : X.calm = true) (hs : ∀ x, foldedSetIterable iter X.env x = pure x := by intro _; rfl) :
    EJ X R (.ListComp elt [⟨tg, iter, ifs, 0⟩] scope pos) ss O fun k O' => ∃ p, k = .val (.ref p) ∧ Φ p O' := fun G0 H0 G H σ S L Q q => by
  obtain ⟨own, g, tt, wi, a, b, c, d, f⟩ := h
  exact wE_of (pe_lc (te := bE X scope elt) hc hN b a c d (fun s H C cl fp => ⟨fun pins s0 σ H Q I h => (h s _ C cl fp).run pins s0 I⟩) hs) (f G0 H0 G H σ S L Q fun G' H' p O' S' e' p' => q.v S' e' ⟨p, rfl, p'⟩)
/-- name = [..] -/
theorem s1_lc (i : Nat) {x : Str} {px spos : Pos} {Φ : Addr → Store → Prop} (h : LJ X R elt tg iter ifs scope ss O Φ) (hq : ∀ p O', Φ p O' → D.nx (ss.set i (.val (.ref p))) O') (hN : X.N.Nodup) (hc : X.calm = true) (hi : X.N[i]? = some x) (hx : X.env.scope.names.lookup x = some .local)
    (hsw : swapsWith (.ListComp elt [⟨tg, iter, ifs, 0⟩] scope pos) (some (.Name x px)) spos.line X.env = pure true) (hs : ∀ x, foldedSetIterable iter X.env x = pure x := by intro _; rfl) : S1 X R (.Assign [.Name x px] (.ListComp elt [⟨tg, iter, ifs, 0⟩] scope pos) spos) ss O D := fun G0 H0 G H σ S L E s => by
  obtain ⟨own, g, tt, wi, a, b, c, d, f⟩ := h
  exact wS_of (ps_setLc (i := i) (te := bE X scope elt) hc hN hi hx hsw b a c d (fun s H C cl fp => ⟨fun pins s0 σ H Q I h => (h s _ C cl fp).run pins s0 I⟩) hs) (f G0 H0 G H σ S L _ fun G' H' p O' S' e' p' => s.nx G' H' _ _ O' (S'.set i (k := .val (.ref p)) rfl) e' (hq p O' p'))
/-- the list, of data -/
theorem LJ.ol {Inv : List PyData → Store → Prop} (h : LJ X R elt tg iter ifs scope ss O fun p O' => ∃ acc O2, O' = (p, .okl acc) :: O2 ∧ ∃ ds : List PyData, acc = ds.map .dat ∧ Inv ds O2) : LJ X R elt tg iter ifs scope ss O fun p O' => ∃ ds O2, O' = (p, .ol ds) :: O2 ∧ Inv ds O2 :=
  h.imp' fun G0 H0 G H σ p O' S ⟨acc, O2, e, ds, e2, iv⟩ => by
    subst e e2
    exact ⟨_, S.cast (b' := .ol ds) fun ⟨vs, a, r⟩ => ⟨vs, a, kinds_all r⟩, ds, O2, rfl, iv⟩
/-- [elt for tg in iter]: a plain map, the store stays -/
theorem lj_map (f : Nat → PyData) (ok : BlkOk X.N X.env.scope scope own) (hi : IJ X R tg iter ss O n item any O1) (hg : ∀ s H C cl fp, PG (Bk X scope s H C cl fp) tg g) (hix : ∀ i ∈ ix, i ∈ own.map (·.2)) (hm : n ≤ 16777216)
    (hb : ∀ i, i < n → GJ g ix (item i) (wipeK ss (own.map (·.2))) O1 fun ss2 O3 => BE X scope elt ss2 O3 fun k O5 => k = .dat (f i) ∧ O5 = O1) :
    LJ X R elt tg iter [] scope ss O fun p O' => O' = (p, .ol ((List.range n).map f)) :: O1 :=
  (LJ.ol (Inv := fun ds O => ds = (List.range n).map f ∧ O = O1) ((lc_any (tt := tYes) (fun i acc O => acc = ((List.range i).map f).map .dat ∧ O = O1) ok hi hg hix (fun _ _ _ _ _ => pts_nil) ⟨rfl, rfl⟩ (fun _ _ _ _ => trivial) (fun i acc O ⟨e, _⟩ => by rw [e]; simp) hm (fun i acc O2 hlt ⟨e1, e2⟩ => by
    subst e1 e2
    intro G0 H0 G H σ v S r Q q
    refine hb i hlt G0 H0 G H σ v S r Q fun G' H' σ' ss' O' S' e' h1 h2 h3 => q G' H' σ' ss' O' S' e' h1 h2 fun G0 H0 G H σ2 S2 Q2 q2 => q2 G H true O' S2 (Ex.refl G) ?_
    rw [if_pos rfl]
    intro s Hb C cl fp
    refine (h3 s Hb C cl fp).imp ?_
    rintro k O ⟨rfl, rfl⟩
    refine ⟨?_, rfl⟩
    rw [List.range_succ, List.map_append, List.map_append]
    rfl)).imp' fun G0 H0 G H σ p O' S ⟨acc, O2, e, e1, e2⟩ => ⟨O', S, acc, O2, e, _, e1, rfl, e2⟩)).imp' fun G0 H0 G H σ p O' S ⟨ds, O2, e, e1, e2⟩ => ⟨O', S, by rw [e, e1, e2]⟩
/-- .. with an if -/
theorem lj_mapIf (t : Nat → Bool) (f : Nat → PyData) (ok : BlkOk X.N X.env.scope scope own) (hi : IJ X R tg iter ss O n item any O1) (hg : ∀ s H C cl fp, PG (Bk X scope s H C cl fp) tg g) (hix : ∀ i ∈ ix, i ∈ own.map (·.2)) (hm : n ≤ 16777216)
    (hb : ∀ i, i < n → GJ g ix (item i) (wipeK ss (own.map (·.2))) O1 fun ss2 O3 => (BT X scope c ss2 O3 fun b O4 => b = t i ∧ O4 = O1) ∧ (t i = true → BE X scope elt ss2 O1 fun k O5 => k = .dat (f i) ∧ O5 = O1)) :
    LJ X R elt tg iter [c] scope ss O fun p O' => O' = (p, .ol (((List.range n).filter t).map f)) :: O1 :=
  (LJ.ol (Inv := fun ds O => ds = ((List.range n).filter t).map f ∧ O = O1) ((lc_any (tt := bT X scope c) (fun i acc O => acc = (((List.range i).filter t).map f).map .dat ∧ O = O1) ok hi hg hix (fun s H C cl fp => pts_one ⟨fun pins s0 σ H Q I h => (h s _ C cl fp).run pins s0 I⟩) ⟨rfl, rfl⟩ (fun _ _ _ _ => trivial) (fun i acc O ⟨e, _⟩ => by
      rw [e, List.length_map, List.length_map]
      have := List.length_filter_le t (List.range i)
      rwa [List.length_range] at this) hm (fun i acc O2 hlt ⟨e1, e2⟩ => by
    subst e1 e2
    intro G0 H0 G H σ v S r Q q
    refine hb i hlt G0 H0 G H σ v S r Q fun G' H' σ' ss' O' S' e' h1 h2 h3 => q G' H' σ' ss' O' S' e' h1 h2 fun G0 H0 G H σ2 S2 Q2 q2 => ?_
    obtain ⟨ht, he⟩ := h3
    intro s Hb C cl fp
    refine ht s Hb C cl fp G0 H0 G H σ2 S2 Lt.no Q2 fun G1 H1 b O3 S1 e1 ⟨x1, x2⟩ => q2 G1 H1 b O3 S1 e1 ?_
    subst x1 x2
    cases hti : t i with
    | true =>
      rw [if_pos rfl]
      intro s Hb C cl fp
      refine (he hti s Hb C cl fp).imp ?_
      rintro k O ⟨rfl, rfl⟩
      refine ⟨?_, rfl⟩
      rw [List.range_succ, List.filter_append, List.map_append, List.map_append, List.filter_cons, if_pos hti]
      rfl
    | false =>
      rw [if_neg Bool.false_ne_true]
      refine ⟨?_, rfl⟩
      rw [List.range_succ, List.filter_append, List.map_append, List.filter_cons, if_neg (by rw [hti]; exact Bool.false_ne_true)]
      simp)).imp' fun G0 H0 G H σ p O' S ⟨acc, O2, e, e1, e2⟩ => ⟨O', S, acc, O2, e, _, e1, rfl, e2⟩)).imp' fun G0 H0 G H σ p O' S ⟨ds, O2, e, e1, e2⟩ => ⟨O', S, by rw [e, e1, e2]⟩
/-- as a new list -/
theorem en_lj {b : Ob} (h : LJ X R elt tg iter ifs scope ss O fun p O' => O' = (p, b) :: O1) (hN : X.N.Nodup) (hc : X.calm = true) (hs : ∀ x, foldedSetIterable iter X.env x = pure x := by intro _; rfl) : EN X R (.ListComp elt [⟨tg, iter, ifs, 0⟩] scope pos) ss O b O1 :=
  EJ.imp (ej_lcv h hN hc hs) fun k O ⟨p, e1, e2⟩ => ⟨p, e1, e2⟩
end
end Dl
/-! Sets of texts that can be walked: membership, the table's rising places, its ledger. -/
namespace Dl
open PySem PySem.Spec PyProof.Rows L2

def txKey (e : Int × Value) : Str := match e.2 with | .str x _ => x | _ => Str.empty
def TxE (w : World) (e : Int × Value) : Prop := ∃ k u, e.2 = Value.str k u ∧ e.1 = hashStr w k
/-- a text set at a: members S, their number n -/
structure TxSet (w : World) (h : Heap) (a : Addr) (S : Str → Bool) (n : Nat) : Prop where
  ex : ∃ o es ep t, h.get? a = some o ∧ o.ExactSet ∧ o.data = .set es ep t ∧ (∀ e ∈ es.toList, TxE w e) ∧ (es.toList.map txKey).Nodup ∧ (∀ k, S k = true ↔ k ∈ es.toList.map txKey) ∧
    es.size < scanBound ∧ t.fits es.size = true ∧ es.size = n ∧ Ris t.place.toList ∧ (w.params.followText "set-order" = true ∨ t.led = true)
section
variable {P : Program} {w : World} {h h' : Heap} {a : Addr} {S : Str → Bool} {n : Nat}
theorem TxSet.at (Z : TxSet w h a S n) (k : ∀ o, h.get? a = some o → h'.get? a = some o) : TxSet w h' a S n := by
  obtain ⟨o, es, ep, t, ho, z⟩ := Z.ex
  exact ⟨⟨o, es, ep, t, k o ho, z⟩⟩
theorem TxSet.congr {S' : Str → Bool} {n' : Nat} (Z : TxSet w h a S n) (e : ∀ k, S' k = S k) (e' : n' = n) : TxSet w h a S' n' := by
  rw [funext e, e']; exact Z
theorem tx_kind (k : Str) (u : Tok) : (PySem.strKind P w).is k (.str k u) = true := strKind_is P w k u
theorem tx_elems {l : List (Int × Value)} (g : ∀ e ∈ l, TxE w e) : ElemsOf (PySem.strKind P w) l := fun e he => by
  obtain ⟨k, u, h1, h2⟩ := g e he
  exact ⟨⟨k, by rw [h1]; exact tx_kind k u, h2⟩, by rw [h1] <;> rfl⟩
theorem tx_is {e : Int × Value} (g : TxE w e) (k : Str) : (PySem.strKind P w).is k e.2 = true ↔ txKey e = k := by
  obtain ⟨k0, u, h1, _⟩ := g
  unfold txKey
  rw [h1]
  show Value.isStrOf k (.str k0 u) = true ↔ k0 = k
  simp [Value.isStrOf]
theorem tx_mem {l : List (Int × Value)} (g : ∀ e ∈ l, TxE w e) (k : Str) : k ∈ l.map txKey ↔ ∃ e ∈ l, (PySem.strKind P w).is k e.2 = true := by
  rw [List.mem_map]
  exact ⟨fun ⟨e, he, q⟩ => ⟨e, he, (tx_is (g e he) k).2 q⟩, fun ⟨e, he, q⟩ => ⟨e, he, (tx_is (g e he) k).1 q⟩⟩
theorem TxSet.setOf (Z : TxSet w h a S n) : h.SetOf (PySem.strKind P w) a S n := by
  obtain ⟨o, es, ep, t, ho, hx, hd, g, nd, hm, hb, hf, hn, _⟩ := Z.ex
  exact ⟨o, es, ep, t, ho, hx, hd, tx_elems g, fun k => (hm k).trans (tx_mem g k), hb, hf, hn⟩
theorem TxSet.fresh (led : Bool) (hl : w.params.followText "set-order" = true ∨ led = true) (ho : h.get? a = some { cls := .type "set", dict := none, data := .set #[] 0 (.fresh 0 0 led) }) : TxSet w h a (fun _ => false) 0 :=
  ⟨_, #[], 0, _, ho, ⟨rfl, rfl, rfl⟩, rfl, fun e he => by simp at he, by simp, fun k => by simp, by decide, by rfl, rfl, List.Pairwise.nil, hl⟩
end
section
variable {P : Program} {w : World} {A : Around} {E : Value → Shared → Prop} {s : Shared} {a : Addr} {S : Str → Bool} {n : Nat}
theorem tx_put {h : Heap} {o : Obj} {es es' : Array (Int × Value)} {ep : Nat} {t t' : SetTable} (ho : h.get? a = some o) (hd : o.data = .set es ep t) : (h.update a (Obj.putSet es' t')).get? a = some { o with data := .set es' (ep + 1) t' } := by
  have q := Heap.get?_update_self (Obj.putSet es' t') ho (by rw [putSet_of es' t' hd]; rfl)
  rwa [putSet_of es' t' hd] at q
/-- the end of an add: stored, laid anew where it is too full -/
theorem tx_tail {g : Bool → Sem Unit} (hg : ∀ (b : Bool) (s₁ : Shared) (Q' : Unit → Shared → Prop), Q' () s₁ → wpAny (model P w) A (g b) Q' E s₁) {o : Obj} {es : Array (Int × Value)} {ep : Nat} {t : SetTable} (ho : s.heap.get? a = some o) (hex : o.ExactSet) (hd : o.data = .set es ep t)
    {e1 : Array (Int × Value)} {t2 : SetTable} {S' : Str → Bool} (g1 : ∀ e ∈ e1.toList, TxE w e) (nd1 : (e1.toList.map txKey).Nodup) (m1 : ∀ k, S' k = true ↔ k ∈ e1.toList.map txKey) (hb1 : e1.size < scanBound) (hf2 : t2.fits e1.size = true) (hr : Ris t2.place.toList)
    (hl : w.params.followText "set-order" = true ∨ t2.led = true) {dum : Bool} {Rr : Option Bool → Shared → Prop} (hR : ∀ h', Heap.SameBut a s.heap h' → TxSet w h' a S' e1.size → Rr (some true) { s with heap := h' }) :
    wpAny (model P w) A (do
      storeSet a e1 t2
      if (!dum && t2.tooFull) = true then do
        g (relayAll t2 e1 (SetTable.grown e1.size)).2.2
        storeSet a (relayAll t2 e1 (SetTable.grown e1.size)).1 (relayAll t2 e1 (SetTable.grown e1.size)).2.1
        pure (some true)
      else pure (some true)) Rr E s := by
  refine wpAny_bind (wpAny_storeSet_of ho hd ?_ (fits_of_scanBound hb1))
  have o1 := tx_put (es' := e1) (t' := t2) ho hd
  have b1 := Heap.SameBut.update s.heap a (Obj.putSet e1 t2)
  split
  · have pm := relayAll_perm t2 e1 (SetTable.grown e1.size)
    have f3 := relayAll_fits t2 e1 (SetTable.grown e1.size)
    have r3 := relayAll_ris t2 e1 (SetTable.grown e1.size)
    have l3 := relayAll_led t2 e1 (SetTable.grown e1.size)
    generalize relayAll t2 e1 (SetTable.grown e1.size) = Y at pm f3 r3 l3 ⊢
    obtain ⟨e2, t3, gv⟩ := Y
    dsimp only at pm f3 r3 l3 ⊢
    have sz : e2.size = e1.size := by rw [← Array.length_toList, pm.length_eq, Array.length_toList]
    have b2 : e2.size < scanBound := by rw [sz]; exact hb1
    refine wpAny_bind (hg _ _ _ ?_)
    refine wpAny_bind (wpAny_storeSet_of o1 rfl ?_ (fits_of_scanBound b2))
    refine wpAny_pure (hR _ (b1.trans (Heap.SameBut.update _ a _)) ⟨?_⟩)
    exact ⟨_, e2, _, t3, tx_put (es' := e2) (t' := t3) o1 rfl, hex, rfl, fun e he => g1 e (pm.mem_iff.mp he), (pm.map txKey).nodup_iff.mpr nd1, fun k => (m1 k).trans (pm.map txKey).mem_iff.symm, b2, f3, sz, r3, hl.imp id fun z => by rw [l3]; exact z⟩
  · exact wpAny_pure (hR _ b1 ⟨_, e1, _, t2, o1, hex, rfl, g1, nd1, m1, hb1, hf2, rfl, hr, hl⟩)
theorem tx_addH {k : Str} {u : Tok} {Q : Bool → Shared → Prop} (Z : TxSet w s.heap a S n) (room : n + 1 < scanBound)
    (hQ : ∀ h', Heap.SameBut a s.heap h' → TxSet w h' a (fun j => S j || decide (j = k)) (if S k = true then n else n + 1) → Q (!S k) { s with heap := h' }) : wpAny (model P w) A (setAddHashed a (.str k u) ((PySem.strKind P w).hash k)) Q E s := by
  obtain ⟨o, es, ep, t, ho, hex, hd, g, nd, hm, hb, hf, hn, hr, hl⟩ := Z.ex
  have key : (PySem.strKind P w).is k (.str k u) = true := tx_kind k u
  have sc : (Value.str k u).scannable = true := rfl
  have el : ElemsOf (PySem.strKind P w) es.toList := tx_elems g
  unfold setAddHashed setAddHashedIn
  refine wpAny_holding (wpAny_bind (wpAny_setState_of ho hd hf ?_))
  dsimp only
  rw [byScan_of sc hb el]
  simp only [↓reduceIte]
  unfold setAddByScan
  refine wpAny_bind ?_
  refine wpAny_bind (wpAny_rule ?_)
  refine wpAny_bind (wpAny_setScan_of key ho hd hf el ?_)
  cases fi : List.findIdx? (fun e => (PySem.strKind P w).is k e.2) es.toList with
  | some j =>
    dsimp only
    obtain ⟨hj, pj, _⟩ := List.findIdx?_eq_some_iff_getElem.mp fi
    have Sk : S k = true := (hm k).2 ((tx_mem (P := P) g k).2 ⟨es.toList[j], List.getElem_mem hj, pj⟩)
    refine wpAny_pure (wpAny_pure ?_)
    have q := hQ s.heap (Heap.SameBut.refl a s.heap) ⟨o, es, ep, t, ho, hex, hd, g, nd, fun i => by
      rw [Bool.or_eq_true, decide_eq_true_eq, ← hm i]
      exact ⟨fun z => z.elim id (fun e => e ▸ Sk), .inl⟩, hb, hf, by rw [if_pos Sk]; exact hn, hr, hl⟩
    rwa [Sk] at q
  | none =>
    dsimp only
    have nk : k ∉ es.toList.map txKey := fun z => by
      obtain ⟨e, he, q⟩ := (tx_mem (P := P) g k).1 z
      have c := List.findIdx?_eq_none_iff.mp fi e he
      rw [q] at c; cases c
    have Sk : S k = false := by
      cases q : S k with
      | false => rfl
      | true => exact absurd ((hm k).1 q) nk
    have gw : ∀ (b : Bool) {s₁ : Shared} {Q' : Unit → Shared → Prop}, Q' () s₁ → wpAny (model P w) A (match b with | true => rule "set.scan.the-table-gave-way" | false => pure ()) Q' E s₁ :=
      fun b s₁ Q' q => by cases b <;> first | exact wpAny_pure q | exact wpAny_rule q
    have pm := layNew_perm t es ((PySem.strKind P w).hash k) (.str k u)
    have f1 := layNew_fits t es ((PySem.strKind P w).hash k) (.str k u)
    have r1 := layNew_ris t es ((PySem.strKind P w).hash k) (.str k u) hr
    have l1 := layNew_led t es ((PySem.strKind P w).hash k) (.str k u)
    generalize layNew t es ((PySem.strKind P w).hash k) (.str k u) = Y at pm f1 r1 l1 ⊢
    obtain ⟨e1, t1, dum, gave⟩ := Y
    dsimp only at pm f1 r1 l1 ⊢
    rw [Array.toList_push] at pm
    have pc : e1.toList.Perm (((PySem.strKind P w).hash k, Value.str k u) :: es.toList) := pm.trans (List.perm_append_singleton _ _)
    have pk : (e1.toList.map txKey).Perm (k :: es.toList.map txKey) := pc.map txKey
    have g1 : ∀ e ∈ e1.toList, TxE w e := fun e he => by
      rcases List.mem_cons.mp (pc.mem_iff.mp he) with z | z
      · rw [z]; exact ⟨k, u, rfl, rfl⟩
      · exact g e z
    have nd1 : (e1.toList.map txKey).Nodup := pk.nodup_iff.mpr (List.nodup_cons.mpr ⟨nk, nd⟩)
    have m1 : ∀ i, (S i || decide (i = k)) = true ↔ i ∈ e1.toList.map txKey := fun i => by
      rw [Bool.or_eq_true, decide_eq_true_eq, hm i, pk.mem_iff, List.mem_cons]
      exact Or.comm
    have sz : e1.size = n + 1 := by rw [← Array.length_toList, pc.length_eq, List.length_cons, Array.length_toList, hn]
    have b1 : e1.size < scanBound := by rw [sz]; exact room
    have led : w.params.followText "set-order" = true ∨ t1.led = true := hl.imp id fun z => by rw [l1]; exact z
    have fin : ∀ h', Heap.SameBut a s.heap h' → TxSet w h' a (fun j => S j || decide (j = k)) e1.size → Q true { s with heap := h' } := fun h' sb r => by
      have q := hQ h' sb
      rw [Sk] at q
      rw [sz] at r
      exact q r
    refine wpAny_bind (gw _ ?_)
    split
    · refine wpAny_bind ?_
      rw [hashByValue_scannable 8 sc]
      refine wpAny_pure ?_
      refine tx_tail ?_ ho hex hd g1 nd1 m1 b1 ?_ ?_ ?_ ?_
      · intro b s₁ Q' q; cases b <;> first | exact wpAny_pure q | exact wpAny_rule q
      · first | (split <;> first | exact f1 | exact SetTable.fits_plain_off f1) | exact f1
      · first | (split <;> exact r1) | exact r1
      · first | (split <;> exact led) | exact led
      · intro h' sb r; dsimp only; exact wpAny_pure (fin h' sb r)
    · refine wpAny_bind (wpAny_pure ?_)
      simp only [↓reduceIte]
      refine tx_tail ?_ ho hex hd g1 nd1 m1 b1 f1 r1 led ?_
      · intro b s₁ Q' q; cases b <;> first | exact wpAny_pure q | exact wpAny_rule q
      · intro h' sb r; dsimp only; exact wpAny_pure (fin h' sb r)
/-- x.add(text) -/
theorem tx_add {k : Str} {u : Tok} {Q : Value → Shared → Prop} (Z : TxSet w s.heap a S n) (room : n + 1 < scanBound)
    (hQ : ∀ h' tk, Heap.SameBut a s.heap h' → TxSet w h' a (fun j => S j || decide (j = k)) (if S k = true then n else n + 1) → Q .none { s with heap := h', toks := tk }) : wpAny (model P w) A (call (.builtin "set.add") [.ref a, .str k u]) Q E s := by
  have hS : s.heap.SetOf (PySem.strKind P w) a S n := Z.setOf
  refine wpAny_call_entry F.slot_set_add hS.typeIs F.entry_set_add ?_ (F.args_set_add_2 _ _)
  unfold Builtin.«set.add» Builtin.Frozenset.oneOther
  simp only [List.isEmpty_nil, bind_assoc]
  unfold Builtin.Frozenset.addrOf setAdd
  refine wpAny_bind (wpAny_pure ?_)
  try dsimp only
  refine wpAny_bind (wpAny_pure ?_)
  try dsimp only
  refine wpAny_bind ?_
  refine wpAny_holding ?_
  refine wpAny_bind ((PySem.strKind P w).pyHash (tx_kind k u) ?_)
  refine tx_addH (s := { s with toks := s.toks + 1 }) Z room fun h' sb r => ?_
  show wpAny _ _ (ret Value.none) _ _ _
  exact wpAny_pure ⟨_, rfl, hQ h' _ sb r⟩
end
end Dl
namespace Dl
open PySem PySem.Spec PyProof.Rows L2

section
variable {P : Program} {w : World} {A : Around} {R : Result → Shared → Prop} {I : Addr} {fp wr : List Addr} {G : Array GenState → Array GenState → Prop} {n : Nat} {Pv : Nat → Value → Prop} {St : Nat → Shared → Prop}
/-- the texts of a walk go into the set at a -/
theorem tx_update (W : WalksS P w A.in1 I fp wr G n Pv St) (a : Addr) (haf : a ∉ fp) (xs : List Str) (hn : xs.length = n) (hb : n + 1 < scanBound) (hv : ∀ i v, Pv i v → ∃ x u, xs[i]? = some x ∧ v = .str x u) :
    ∀ (k i : Nat) (s : Shared), n - i = k → i ≤ n → St i s → (∃ c, c ≤ i ∧ TxSet w s.heap a (fun j => decide (j ∈ xs.take i)) c) →
      (∀ s' c, Moved (a :: wr) G s s' → c ≤ n → TxSet w s'.heap a (fun j => decide (j ∈ xs)) c → R (.ok (.ret .none)) s') → codeAny (model P w) A (.builtin "set.update.loop" ⟨[.ref a, .ref I], []⟩) R s := by
  have haw : a ∉ wr := fun h => haf (W.sub _ h)
  have sub : ∀ b ∈ wr, b ∈ a :: wr := fun b hb => List.mem_cons_of_mem _ hb
  intro k
  induction k with
  | zero =>
    intro i s hk hi st ⟨c, hc, hS⟩ hR
    obtain rfl : i = n := by omega
    refine codeAny_builtin F.entry_set_update_loop ?_
    rw [Around.under_plainId F.plain_set_update_loop _]
    show wpAny _ A.in1 (pyNext (.ref I) >>= _) _ _ s
    refine wpAny_bind (W.done s _ _ st fun s' hm => ?_)
    show wpAny _ A.in1 (ret Value.none) _ _ s'
    refine wpAny_pure (hR s' c (hm.mono sub) hc ?_)
    have e : xs.take i = xs := List.take_of_length_le (by omega)
    rw [e] at hS
    exact hS.at fun o ho => hm.heap a _ haw ho
  | succ k ih =>
    intro i s hk hi st ⟨c, hc, hS⟩ hR
    have lt : i < n := by omega
    refine codeAny_builtin F.entry_set_update_loop ?_
    rw [Around.under_plainId F.plain_set_update_loop _]
    show wpAny _ A.in1 (pyNext (.ref I) >>= _) _ _ s
    refine wpAny_bind (W.item i s _ _ lt st fun v s' hP st' hm => ?_)
    obtain ⟨x, u, hx, rfl⟩ := hv i v hP
    have hS' := hS.at (h' := s'.heap) fun o ho => hm.heap a _ haw ho
    show wpAny _ A.in1 (holding [Value.str x u] (setAdd a (.str x u)) >>= _) _ _ s'
    refine wpAny_bind (wpAny_holding ?_)
    unfold setAdd
    refine wpAny_holding ?_
    refine wpAny_bind ((PySem.strKind P w).pyHash (k := x) (tx_kind x u) ?_)
    refine tx_addH (s := { s' with toks := s'.toks + 1 }) hS' (by omega) fun h' sb z => ?_
    have e : xs.take (i + 1) = xs.take i ++ [x] := by rw [List.take_add_one, hx]; rfl
    have z2 : ∃ c', c' ≤ i + 1 ∧ TxSet w h' a (fun j => decide (j ∈ xs.take (i + 1))) c' := by
      refine ⟨_, ?_, z.congr (fun j => ?_) rfl⟩
      · split <;> omega
      · rw [e]; simp
    refine wpAny_pure ⟨plainId_quiet F.plain_set_update_loop _, ih (i + 1) _ (by omega) lt (W.frame _ s' _ _ st' (Nat.le_succ _) fun b hb o e => ?_) z2 fun s'' c' m2 hc' S2 => ?_⟩
    · rw [sb.2 b (fun h : b = a => haf (by rw [← h]; exact hb))]; exact e
    · refine hR s'' c' (Moved.trans W.gtrans ((hm.mono sub).then_heap (Nat.le_succ _) fun b o hb e => ?_) m2) hc' S2
      rw [sb.2 b (fun h : b = a => hb (by rw [h]; exact List.mem_cons_self))]; exact e
end
section
variable {P : Program} {w : World} {A : Around} {E : Value → Shared → Prop} {s : Shared}
abbrev newSetO (w : World) : Obj := { cls := .type "set", dict := none, data := .set #[] 0 (.fresh 0 0 (!w.params.followText "set-order")) }
theorem tx_fresh {h : Heap} {a : Addr} (ho : h.get? a = some (newSetO w)) : TxSet w h a (fun _ => false) 0 := TxSet.fresh _ (by cases w.params.followText "set-order" <;> simp) ho
theorem tx_fresh' {xs : List Str} {h : Heap} {a : Addr} (ho : h.get? a = some (newSetO w)) : TxSet w h a (fun j => decide (j ∈ xs.take 0)) 0 := (tx_fresh ho).congr (fun j => by simp) rfl
theorem strs_in {l : List Value} {xs : List Str} (h : StrsAre l xs) : ∀ {i : Nat} {v : Value}, l[i]? = some v → ∃ x u, xs[i]? = some x ∧ v = .str x u := by
  induction h with
  | nil => intro i v e; simp at e
  | cons x t _ ih =>
    intro i v e
    cases i with
    | zero => simp at e; exact ⟨_, _, rfl, e.symm⟩
    | succ i => obtain ⟨y, u, h1, h2⟩ := ih (i := i) (by simpa using e); exact ⟨y, u, by simpa using h1, h2⟩
theorem set_list {l : Addr} {items : Array Value} {xs : List Str} {Q : Value → Shared → Prop} (hh : A.handled = none) (hl : s.heap.IsList l items) (hi : StrsAre items.toList xs) (hb : xs.length + 1 < scanBound)
    (h : ∀ (h' : Heap) (tk c : Nat), TxSet w h' s.heap.objs.size (fun j => decide (j ∈ xs)) c → c ≤ xs.length → (∀ b o, s.heap.get? b = some o → h'.get? b = some o) → Q (.ref s.heap.objs.size) { s with heap := h', toks := tk }) :
    wpAny (model P w) A (call (.type "set") [(.ref l)]) Q E s := by
  obtain ⟨c, tl, hmro⟩ := F.called_set.mro
  have hmade := F.called_set.made
  have hsub := F.called_set.sub
  refine wpAny_call (codeAny_of_tree ?_)
  show wpAny _ _ (callAny (.type "set") _) _ _ _
  refine wpAny_pure ⟨Code.quiet_builtin _ (by decide +kernel), codeAny_builtin F.entry_type_call ?_⟩
  rw [Around.under_plain (weight_type_call_type "set" [(.ref l)] []) rfl]
  have h1 := F.called_set.notType
  have h2 := F.called_set.canCreate
  have hct := F.typeCall_set_1 (.ref l)
  repeat (any_goals (first | assumption | wp_step))
  refine codeAny_mono (code_set_led1 (.ref l) (E := E) (Q₁ := fun obj s₁ => obj = .ref s.heap.objs.size ∧ s₁ = { s with heap := s.heap.push (newSetO w) }) ⟨rfl, rfl⟩) fun r s₁ hr => ?_
  cases r with
  | error e => exact hr
  | ok fl =>
    cases fl with
    | ret obj =>
      obtain ⟨rfl, rfl⟩ := hr
      have hS : (s.heap.push (newSetO w)).get? s.heap.objs.size = some (newSetO w) := Heap.get?_push_size _ rfl
      have hT : Shared.TypeIs { s with heap := s.heap.push (newSetO w) } (.ref s.heap.objs.size) "set" := ⟨_, hS, rfl⟩
      have hz1 : (s.heap.push (newSetO w)).objs.size = s.heap.objs.size + 1 := Heap.size_push ..
      have hli := F.called_set.init.lookup
      have hbi := F.called_set.init.bind (.ref s.heap.objs.size)
      repeat (any_goals (first | assumption | wp_step))
      refine codeAny_mono (codeAny_call_builtin (R := wants (fun r s₂ => r = .none ∧ ∃ h' tk c, s₂ = { s with heap := h', toks := tk } ∧ TxSet w h' s.heap.objs.size (fun j => decide (j ∈ xs)) c ∧ c ≤ xs.length ∧ (∀ b o, s.heap.get? b = some o → h'.get? b = some o)) E)
        F.called_set.init.plain F.entry_set_init (check_set_init_1 hT ?_)) fun r₂ s₂ hr₂ => ?_
      · obtain ⟨ol, hol, hcl, nl, hdl⟩ := hl
        obtain ⟨ocls, odict, odata, oslots⟩ := ol
        simp only at hcl hdl
        subst hcl; subst hdl
        have hol' : (s.heap.push (newSetO w)).get? l = some { cls := .type "list", dict := odict, data := .seq items nl, slots := oslots } := Heap.get?_push_of_some _ hol
        have hsls := F.sub_list_set
        have hslf := F.sub_list_frozenset
        have hne : (Value.type "list" == Value.type "dict") = false := by decide
        have hl1 : (s.heap.push (newSetO w)).IsList l items := ⟨_, hol', rfl, nl, rfl⟩
        unfold Builtin.«set.__init__» noKeywords Builtin.Frozenset.updateFrom
        generalize hPI : pyIter = PI
        wp_walk
        subst hPI
        refine wpAny_pyIter_list hl1 ?_
        refine wpAny_bind (wpAny_runValue ?_)
        have hlS : l < s.heap.objs.size := Heap.lt_size hol
        have hh3 : A.in1.in1.in1.handled = none := by simp [hh]
        have neI : l ≠ (s.heap.push (newSetO w)).objs.size := by
          rw [Heap.size_push]; exact Nat.ne_of_lt (Nat.lt_succ_of_lt hlS)
        have naf : s.heap.objs.size ∉ [(s.heap.push (newSetO w)).objs.size, l] := by
          rw [Heap.size_push]; simp only [List.mem_cons, List.mem_singleton, List.not_mem_nil, or_false, not_or]
          exact ⟨Nat.ne_of_lt (Nat.lt_succ_self _), Nat.ne_of_gt hlS⟩
        have hsz : xs.length = items.size := by rw [← StrsAre.len_eq hi, Array.length_toList]
        refine tx_update ((Walks.list hh3 _ l neI items).toS) s.heap.objs.size naf xs hsz (by omega) (fun i v hv => strs_in hi (by rw [Array.getElem?_toList]; exact hv)) (items.size - 0) 0 _ (by omega) (Nat.zero_le _)
          ⟨⟨_, Heap.get?_push_size _ rfl, rfl, rfl⟩, (hl1.push _)⟩ ⟨0, Nat.le_refl 0, tx_fresh' (Heap.get?_push_of_some _ hS)⟩ ?hR
        case hR =>
          intro s' c' hm hc' hS'
          obtain ⟨h', g2, d', tk', os'⟩ := s'
          have eg : g2 = s.gens := hm.gens
          have ed : d' = s.drawn := hm.drawn
          have eo : os' = s.os := hm.os
          subst eg; subst ed; subst eo
          show wpAny _ _ _ _ _ _
          refine wpAny_pure ?_
          show wpAny _ _ (ret Value.none) _ _ _
          rw [← hsz] at hc'
          refine wpAny_pure ⟨rfl, h', tk', c', rfl, hS', hc', fun b o e => ?_⟩
          have hb0 : b < s.heap.objs.size := Heap.lt_size e
          have hb1 : b ≠ s.heap.objs.size := Nat.ne_of_lt hb0
          have hb2 : b ≠ (s.heap.push (newSetO w)).objs.size := by
            rw [Heap.size_push]; exact Nat.ne_of_lt (Nat.lt_succ_of_lt hb0)
          exact hm.heap b o (by simp only [List.mem_cons, List.mem_singleton, List.not_mem_nil, or_false, not_or]; exact ⟨hb1, hb2⟩) (Heap.get?_push_of_some _ (Heap.get?_push_of_some _ e))
      · cases r₂ with
        | error e => exact hr₂
        | ok fl₂ =>
          cases fl₂ with
          | ret r =>
            obtain ⟨rfl, h', tk, c', rfl, hS', hc', hk'⟩ := hr₂
            repeat (any_goals (first | assumption | wp_step))
            exact h _ _ _ hS' hc' hk'
          | _ => exact hr₂.elim
    | _ => exact hr.elim
theorem set_text {z : Str} {u : Tok} {Q : Value → Shared → Prop} (hh : A.handled = none) (hb : z.length + 1 < scanBound)
    (h : ∀ (h' : Heap) (tk c : Nat), TxSet w h' s.heap.objs.size (fun j => decide (j ∈ (z.cps.toList.map fun c => (⟨#[c]⟩ : Str)))) c → c ≤ (z.cps.toList.map fun c => (⟨#[c]⟩ : Str)).length → (∀ b o, s.heap.get? b = some o → h'.get? b = some o) → Q (.ref s.heap.objs.size) { s with heap := h', toks := tk }) :
    wpAny (model P w) A (call (.type "set") [(.str z u)]) Q E s := by
  obtain ⟨c, tl, hmro⟩ := F.called_set.mro
  have hmade := F.called_set.made
  have hsub := F.called_set.sub
  refine wpAny_call (codeAny_of_tree ?_)
  show wpAny _ _ (callAny (.type "set") _) _ _ _
  refine wpAny_pure ⟨Code.quiet_builtin _ (by decide +kernel), codeAny_builtin F.entry_type_call ?_⟩
  rw [Around.under_plain (weight_type_call_type "set" [(.str z u)] []) rfl]
  have h1 := F.called_set.notType
  have h2 := F.called_set.canCreate
  have hct := F.typeCall_set_1 (.str z u)
  repeat (any_goals (first | assumption | wp_step))
  refine codeAny_mono (code_set_led1 (.str z u) (E := E) (Q₁ := fun obj s₁ => obj = .ref s.heap.objs.size ∧ s₁ = { s with heap := s.heap.push (newSetO w) }) ⟨rfl, rfl⟩) fun r s₁ hr => ?_
  cases r with
  | error e => exact hr
  | ok fl =>
    cases fl with
    | ret obj =>
      obtain ⟨rfl, rfl⟩ := hr
      have hS : (s.heap.push (newSetO w)).get? s.heap.objs.size = some (newSetO w) := Heap.get?_push_size _ rfl
      have hT : Shared.TypeIs { s with heap := s.heap.push (newSetO w) } (.ref s.heap.objs.size) "set" := ⟨_, hS, rfl⟩
      have hz1 : (s.heap.push (newSetO w)).objs.size = s.heap.objs.size + 1 := Heap.size_push ..
      have hli := F.called_set.init.lookup
      have hbi := F.called_set.init.bind (.ref s.heap.objs.size)
      repeat (any_goals (first | assumption | wp_step))
      refine codeAny_mono (codeAny_call_builtin (R := wants (fun r s₂ => r = .none ∧ ∃ h' tk c, s₂ = { s with heap := h', toks := tk } ∧ TxSet w h' s.heap.objs.size (fun j => decide (j ∈ (z.cps.toList.map fun c => (⟨#[c]⟩ : Str)))) c ∧ c ≤ (z.cps.toList.map fun c => (⟨#[c]⟩ : Str)).length ∧ (∀ b o, s.heap.get? b = some o → h'.get? b = some o)) E)
        F.called_set.init.plain F.entry_set_init (check_set_init_1 hT ?_)) fun r₂ s₂ hr₂ => ?_
      · have hsls := PySem.F.sub_str_set
        have hslf := PySem.F.sub_str_frozenset
        have hne : (Value.type "str" == Value.type "dict") = false := by decide
        unfold Builtin.«set.__init__» noKeywords Builtin.Frozenset.updateFrom
        generalize hPI : pyIter = PI
        wp_walk
        subst hPI
        refine wpAny_pyIter_str fun oI Si hW hst => ?_
        refine wpAny_bind (wpAny_runValue ?_)
        have hh3 : A.in1.in1.in1.handled = none := by simp [hh]
        have naf : s.heap.objs.size ∉ [(s.heap.push (newSetO w)).objs.size] := by
          rw [Heap.size_push]; simp only [List.mem_singleton]
          exact Nat.ne_of_lt (Nat.lt_succ_self _)
        have hsz : (z.cps.toList.map fun c => (⟨#[c]⟩ : Str)).length = z.cps.size := by simp
        refine tx_update ((hW _ hh3).toS) s.heap.objs.size naf _ hsz hb (fun i v hv => ?_) (z.cps.size - 0) 0 _ (by omega) (Nat.zero_le _) hst ⟨0, Nat.le_refl 0, tx_fresh' (Heap.get?_push_of_some _ hS)⟩ ?hR
        · obtain ⟨c, u, hc, rfl⟩ := hv
          exact ⟨_, u, by simp [hc], rfl⟩
        case hR =>
          intro s' c' hm hc' hS'
          obtain ⟨h', g2, d', tk', os'⟩ := s'
          have eg : g2 = s.gens := hm.gens
          have ed : d' = s.drawn := hm.drawn
          have eo : os' = s.os := hm.os
          subst eg; subst ed; subst eo
          show wpAny _ _ _ _ _ _
          refine wpAny_pure ?_
          show wpAny _ _ (ret Value.none) _ _ _
          rw [← hsz] at hc'
          refine wpAny_pure ⟨rfl, h', tk', c', rfl, hS', hc', fun b o e => ?_⟩
          have hb0 : b < s.heap.objs.size := Heap.lt_size e
          have hb1 : b ≠ s.heap.objs.size := Nat.ne_of_lt hb0
          have hb2 : b ≠ (s.heap.push (newSetO w)).objs.size := by
            rw [Heap.size_push]; exact Nat.ne_of_lt (Nat.lt_succ_of_lt hb0)
          exact hm.heap b o (by simp only [List.mem_cons, List.mem_singleton, List.not_mem_nil, or_false, not_or]; exact ⟨hb1, hb2⟩) (Heap.get?_push_of_some _ (Heap.get?_push_of_some _ e))
      · cases r₂ with
        | error e => exact hr₂
        | ok fl₂ =>
          cases fl₂ with
          | ret r =>
            obtain ⟨rfl, h', tk, c', rfl, hS', hc', hk'⟩ := hr₂
            repeat (any_goals (first | assumption | wp_step))
            exact h _ _ _ hS' hc' hk'
          | _ => exact hr₂.elim
    | _ => exact hr.elim
end
end Dl
namespace Dl
open PySem PySem.Spec PyProof.Rows L2

def TxO (w : World) (a : Addr) (S : Str → Bool) (n : Nat) : HO := .ext fun h => TxSet w h a S n
theorem txO_new {w : World} {P : Program} {H : Hp} {h : Heap} {a : Addr} {S : Str → Bool} {n : Nat} (R : TxSet w h a S n) : ObjOk P w H h a (TxO w a S n) := by
  obtain ⟨o, _, _, _, ho, _⟩ := R.ex
  exact ⟨R, ⟨o, ho⟩, fun h1 h2 p k => TxSet.at p k⟩
theorem strs_in_of : ∀ {l : List Value}, (∀ v ∈ l, ∃ k u, v = Value.str k u) → StrsAre l (l.map fun v => match v with | .str x _ => x | _ => Str.empty)
  | [], _ => .nil
  | v :: l, h => by
    obtain ⟨k, u, rfl⟩ := h v List.mem_cons_self
    exact .cons k u (strs_in_of fun v hv => h v (List.mem_cons_of_mem _ hv))
section
variable {P : Program} {w : World} {A : Around} {E : Value → Shared → Prop} {s : Shared} {a : Addr}
/-- a gathered list of texts, sorted -/
theorem sort_end {vs : List Value} {xs : List Str} {s1 : Shared} {Q : Value → Shared → Prop} (hS : StrsAre vs xs) (hl : vs.length ≤ sizeLine) (k1 : ∀ b o, s.heap.get? b = some o → s1.heap.get? b = some o) (hz : s.heap.objs.size ≤ s1.heap.objs.size) (g1 : s1.gens = s.gens) (o1 : s1.os = s.os)
    (hQ : ∀ s' p (out : Array Value) (c : Nat) (ys : List Str), (∀ b o, s.heap.get? b = some o → s'.heap.get? b = some o) → s'.gens = s.gens → s'.os = s.os → s.heap.objs.size ≤ p → s'.heap.get? p = some (seqObj "list" out c) → StrsAre out.toList ys → ys.Perm xs → sortedS ys = true → Q (.ref p) s') :
    wpAny (model P w) A (do
      let l ← newList vs
      let _ ← holding [l] (call (.builtin "list.sort") [l])
      ret l) (fun fin s' => ∃ v, fin = PySem.Fin.done (Flow.ret v) ∧ Q v s') E s1 := by
  refine wpAny_bind (wpAny_newList ?_ hl)
  have hoL : (s1.heap.push (seqObj "list" vs.toArray 0)).get? s1.heap.objs.size = some (seqObj "list" vs.toArray 0) := Heap.get?_push_size _ rfl
  refine wpAny_bind (wpAny_holding (wpAny_call_entry slot_list_sort ⟨_, hoL, rfl⟩ entry_list_sort (list_sort_treeKSt strKind_oneLt hoL hS.keysOf (fun v₁ v₂ rest e => keyKind_strs (by rw [← e]; exact hS)) hl fun st' hp hs _ => ⟨_, rfl, ?_⟩) (args_list_sort _)))
  obtain ⟨ys, h1, h2, h3⟩ := sorted_out_str hS hp hs
  obtain ⟨c, hc⟩ := sortedHeap_at (vs := vs) (out := (arrOf st').map (·.2)) hoL
  refine wpAny_pure ⟨_, rfl, hQ _ s1.heap.objs.size _ c ys (fun b u e => ?_) g1 o1 hz hc h1 h2 h3⟩
  have q := k1 b u e
  have hlt := Heap.lt_size q
  show (sortedHeap (s1.heap.push (seqObj "list" vs.toArray 0)) s1.heap.objs.size vs _).get? b = some u
  rw [sortedHeap_old (Nat.ne_of_lt hlt) (by rw [size_push']; exact Nat.lt_succ_of_lt hlt)]
  exact Heap.get?_push_of_some _ q
theorem sorted_tx {S : Str → Bool} {n : Nat} {Q : Value → Shared → Prop} (Z : TxSet w s.heap a S n) (hh : A.handled = none)
    (hQ : ∀ s' p (out : Array Value) (c : Nat) (ys : List Str), (∀ b o, s.heap.get? b = some o → s'.heap.get? b = some o) → s'.gens = s.gens → s'.os = s.os → s.heap.objs.size ≤ p → s'.heap.get? p = some (seqObj "list" out c) → StrsAre out.toList ys → sortedS ys = true → ys.Nodup → (∀ k, k ∈ ys ↔ S k = true) → ys.length = n → Q (.ref p) s') :
    wpAny (model P w) A (call (.builtin "sorted") [.ref a]) Q E s := by
  obtain ⟨o, es, ep, t, ho, hex, hd, g, nd, hm, hb, hf, hn, hr, hl⟩ := Z.ex
  refine Calls.call_function_entry kind_sorted plain_sorted entry_sorted (args_sorted1 _) ?_
  unfold Builtin.«sorted»
  refine wpAny_bind (m := checkCount "sorted" 1 1 _) (wpAny_pure ?_)
  refine wpAny_bind (collect_set (A := A.in1) hh ⟨o, ho, hex.1, hd⟩ hf hb hr hl fun s1 vs k1 hz g1 o1 pm => ?_)
  have hvl : vs.length = n := by rw [pm.length_eq, List.length_map, Array.length_toList]; exact hn
  have hI := strs_in_of (l := vs) fun v hv => by
    obtain ⟨e, he, q⟩ := List.mem_map.mp (pm.mem_iff.mp hv)
    obtain ⟨k, tk, h1, _⟩ := g e he
    exact ⟨k, tk, by rw [← q]; exact h1⟩
  have pk : (vs.map fun v => match v with | .str x _ => x | _ => Str.empty).Perm (es.toList.map txKey) := by
    have q := pm.map fun v => match v with | .str x _ => x | _ => Str.empty
    rw [List.map_map] at q
    exact q
  refine sort_end (s := s) hI ?_ k1 hz g1 o1 fun s' p out c ys h1 h2 h3 h4 h5 h6 h7 h8 => ?_
  · rw [hvl, sizeLine_eq, ← hn]
    exact Nat.le_of_lt (Nat.lt_of_lt_of_le hb (by decide))
  · have pp := h7.trans pk
    exact hQ s' p out c ys h1 h2 h3 h4 h5 h6 h8 (pp.nodup_iff.mpr nd) (fun k => by rw [pp.mem_iff, ← hm k]) (by rw [pp.length_eq, List.length_map, Array.length_toList]; exact hn)
theorem signs_of {x : Str} {acc : Array Value} (h : ItemsOf (SignAt x) acc x.cps.size) : StrsAre acc.toList (x.cps.toList.map fun c => (⟨#[c]⟩ : Str)) :=
  strs_at (by rw [Array.length_toList, h.1, List.length_map, Array.length_toList]) fun j v e => by
    obtain ⟨c, u, h1, h2⟩ := h.2 j v (by rw [← Array.getElem?_toList]; exact e)
    exact ⟨⟨#[c]⟩, u, by rw [List.getElem?_map, Array.getElem?_toList, h1]; rfl, h2⟩
/-- the signs of a text gathered: the heap has grown -/
theorem collect_signs {Q : List Value → Shared → Prop} (hh : A.handled = none) (x : Str) (t : Tok) (hn : x.cps.size ≤ sizeLine)
    (hQ : ∀ s' acc, (∀ b o, s.heap.get? b = some o → s'.heap.get? b = some o) → s.heap.objs.size ≤ s'.heap.objs.size → s'.gens = s.gens → s'.os = s.os → ItemsOf (SignAt x) acc x.cps.size → Q acc.toList s') :
    wpAny (model P w) A (collect (.str x t)) Q E s := by
  unfold collect
  refine wpAny_bind (wpAny_runValue (codeAny_builtin PySem.F.entry_proto_collect ?_))
  rw [Around.under_plainId PySem.F.plain_proto_collect _]
  show wpAny _ A.in1 (newList [] >>= fun l => again (.builtin "list.__iadd__" ⟨[l, .str x t], []⟩)) _ _ s
  refine wpAny_bind (wpAny_newObj_type ?_)
  refine wpAny_pure ⟨plainId_quiet PySem.F.plain_list_iadd _, codeAny_builtin PySem.F.entry_list_iadd ?_⟩
  rw [Around.under_plainId PySem.F.plain_list_iadd _]
  show wpAny _ A.in1 (Builtin.List.listExtendWith (.ref s.heap.objs.size) (.str x t) (.ref s.heap.objs.size)) _ _ _
  unfold Builtin.List.listExtendWith
  refine wpAny_bind (wpAny_typeOf (T := "str") (v := .str x t) rfl ?_)
  have h1 : Builtin.List.listSameRef (.ref s.heap.objs.size) (.str x t) = false := rfl
  have h2 : (Value.type "str" == Value.type "list") = false := by decide
  have h3 : (Value.type "str" == Value.type "tuple") = false := by decide
  simp only [h1, h2, h3, Bool.or_false, Bool.false_eq_true, if_false]
  refine wpAny_bind (wpAny_pyIter_str fun o St W hst => ?_)
  refine wpAny_bind (wpAny_holding ?_)
  unfold Builtin.List.listLengthHint
  refine wpAny_bind (wpAny_specialOf (T := "str") (v := .str x t) rfl PySem.F.str_len ?_)
  wp_delta
  refine wpAny_bind (wpAny_isInstance (T := "str") (v := .str x t) (b := true) rfl (by rw [isSubtype_type]; kernel_rfl) ?_)
  show wpAny _ A.in1 (typeOf (Value.str x t) >>= _) _ _ _
  refine wpAny_bind (wpAny_typeOf (T := "str") (v := .str x t) rfl ?_)
  refine wpAny_pure ?_
  rw [if_neg (by decide)]
  generalize hH : s.heap.push { cls := .type "list", data := .seq ([] : List Value).toArray } = H at W hst ⊢
  have hHs : H.objs.size = s.heap.objs.size + 1 := by rw [← hH, Heap.size_push]
  have hSf : s.heap.objs.size ∉ [H.objs.size] := fun hm => by rw [List.mem_singleton.mp hm] at hHs; exact absurd hHs (Nat.ne_of_lt (Nat.lt_succ_self _))
  have hS : (H.push o).get? s.heap.objs.size = some { cls := .type "list", data := .seq ([] : List Value).toArray } := Heap.get?_push_of_some _ (hH ▸ Heap.get?_push_size _ rfl)
  refine wpAny_pure ⟨plainId_quiet PySem.F.plain_extend_loop _, codeAny_extend_loopS (W A.in1 hh).toS hn _ hSf _ x.cps.size 0 _ _ _ rfl (Nat.zero_le _) hst hS (ItemsOf.nil _) fun s' acc' c' hm hS' hacc => ?_⟩
  show wpAny _ A (load s.heap.objs.size >>= _) _ _ s'
  refine wpAny_bind (wpAny_load hS' ?_)
  refine wpAny_pure (hQ s' acc' (fun b ob e => hm.heap b ob (fun hb => ?_) (Heap.get?_push_of_some _ (hH ▸ Heap.get?_push_of_some _ e))) (Nat.le_of_lt (Heap.lt_size hS')) hm.gens hm.os hacc)
  have hlt := Heap.lt_size e
  rcases List.mem_cons.mp hb with h | h
  · exact absurd hlt (h ▸ Nat.lt_irrefl _)
  · rw [List.mem_singleton.mp h, hHs] at hlt; exact absurd hlt (Nat.not_lt.mpr (Nat.le_succ _))
theorem sorted_text {z : Str} {u : Tok} {Q : Value → Shared → Prop} (hh : A.handled = none) (hz : z.cps.size ≤ sizeLine)
    (hQ : ∀ s' p (out : Array Value) (c : Nat) (ys : List Str), (∀ b o, s.heap.get? b = some o → s'.heap.get? b = some o) → s'.gens = s.gens → s'.os = s.os → s.heap.objs.size ≤ p → s'.heap.get? p = some (seqObj "list" out c) → StrsAre out.toList ys → ys.Perm (z.cps.toList.map fun c => (⟨#[c]⟩ : Str)) → sortedS ys = true → Q (.ref p) s') :
    wpAny (model P w) A (call (.builtin "sorted") [.str z u]) Q E s := by
  refine Calls.call_function_entry kind_sorted plain_sorted entry_sorted (args_sorted1 _) ?_
  unfold Builtin.«sorted»
  refine wpAny_bind (m := checkCount "sorted" 1 1 _) (wpAny_pure ?_)
  refine wpAny_bind (collect_signs (A := A.in1) hh z u hz fun s1 acc k1 hsz g1 o1 ha => ?_)
  have hl : acc.toList.length ≤ sizeLine := by rw [Array.length_toList, ha.1]; exact hz
  exact sort_end (s := s) (signs_of ha) hl k1 hsz g1 o1 fun s' p out c ys h1 h2 h3 h4 h5 h6 h7 h8 => hQ s' p out c ys h1 h2 h3 h4 h5 h6 h7 h8
end
section
variable {X : Cx}
theorem laid_strs {pins : List (Addr × Obj)} {σ : L2.St} {H : Hp} {s s' : Shared} {p : Addr} {out : Array Value} {c : Nat} {ys : List Str} (I : Inv X pins σ H s) (k : ∀ b o, s.heap.get? b = some o → s'.heap.get? b = some o) (g : s'.gens = s.gens) (o : s'.os = s.os) (hp : s.heap.objs.size ≤ p)
    (hg : s'.heap.get? p = some (seqObj "list" out c)) (hi : StrsAre out.toList ys) (hl : ys.length ≤ sizeLine) : H p = none ∧ Inv X pins σ (upd H p (.lst (ys.map V.str))) s' := by
  have hn : H p = none := I.hok.fresh hp
  have hlen : (ys.map V.str).length ≤ sizeLine := by rw [List.length_map]; exact hl
  refine ⟨hn, I.call' (ch := []) o (Un.laid k hp hn) (I.hok.laid k hp ⟨hlen, out.toList, c, vals_of_strs hi, hg⟩) (by rw [g]; exact I.bare) (fun _ z => nomatch z)⟩
/-- sorted of a set of texts -/
theorem call_sortedTx (hc : X.calm = true) : CallR X (.builtin "sorted") (fun vs H Q => ∃ (a : Addr) (S : Str → Bool) (n : Nat), vs = [V.ref a] ∧ H a = some (TxO X.w a S n) ∧
    ∀ (ys : List Str) (p : Addr), sortedS ys = true → ys.Nodup → (∀ k, k ∈ ys ↔ S k = true) → ys.length = n → H p = none → Q (.ref p) (upd H p (.lst (ys.map V.str)))) := by
  intro pins s σ H vs us Q I r h
  obtain ⟨a, S, n, rfl, ha, q⟩ := h
  have R : TxSet X.w s.heap a S n := (I.hok a _ ha).1
  have hn : n < scanBound := by
    obtain ⟨o, es, ep, t, _, _, _, _, _, _, hb, _, e, _⟩ := R.ex
    rw [← e]; exact hb
  rw [Vals.ref1 r]
  refine sorted_tx R (I.ok.hd hc) fun s' p out c ys k g o hp hg hi hs hnd hm hl => ?_
  obtain ⟨h1, J⟩ := laid_strs (σ := σ) (H := H) I k g o hp hg hi (by rw [hl, sizeLine_eq]; exact Nat.le_of_lt (Nat.lt_of_lt_of_le hn (by decide)))
  exact ⟨.ref p, _, J, rfl, q ys p hs hnd hm hl h1⟩
/-- sorted of a text -/
theorem call_sortedS1 (hc : X.calm = true) : CallR X (.builtin "sorted") (fun vs H Q => ∃ (z : Str), vs = [V.str z] ∧ z.cps.size ≤ sizeLine ∧
    ∀ (ys : List Str) (p : Addr), ys.Perm (z.cps.toList.map fun c => (⟨#[c]⟩ : Str)) → sortedS ys = true → H p = none → Q (.ref p) (upd H p (.lst (ys.map V.str)))) := by
  intro pins s σ H vs us Q I r h
  obtain ⟨z, rfl, hz, q⟩ := h
  obtain ⟨u, rfl, ru⟩ := vals1 r
  obtain ⟨t, rfl⟩ := ru
  refine sorted_text (I.ok.hd hc) hz fun s' p out c ys k g o hp hg hi pm hs => ?_
  obtain ⟨h1, J⟩ := laid_strs (σ := σ) (H := H) I k g o hp hg hi (by rw [pm.length_eq, List.length_map, Array.length_toList]; exact hz)
  exact ⟨.ref p, _, J, rfl, q ys p pm hs h1⟩
/-- set of a list of texts -/
theorem call_setL (hc : X.calm = true) : CallR X (.type "set") (fun vs H Q => ∃ (a : Addr) (xs : List Str), vs = [V.ref a] ∧ SqL X.K H a (xs.map V.str) ∧ xs.length + 1 < scanBound ∧
    ∀ (p : Addr) (c : Nat), c ≤ xs.length → H p = none → Q (.ref p) (upd H p (TxO X.w p (fun j => decide (j ∈ xs)) c))) := by
  intro pins s σ H vs us Q I r h
  obtain ⟨a, xs, rfl, hs, hb, q⟩ := h
  obtain ⟨its, rv, hl, _⟩ := I.list hs
  rw [Vals.ref1 r]
  refine set_list (I.ok.hd hc) hl.isList rv.strs hb fun h' tk c Z hc' k => ?_
  exact ⟨.ref _, _, I.laid (t' := tk) k (Nat.le_refl _) (txO_new Z), rfl, q _ c hc' (I.hok.fresh (Nat.le_refl _))⟩
/-- set of a text -/
theorem call_setS (hc : X.calm = true) : CallR X (.type "set") (fun vs H Q => ∃ (z : Str), vs = [V.str z] ∧ z.length + 1 < scanBound ∧
    ∀ (p : Addr) (c : Nat), c ≤ (z.cps.toList.map fun c => (⟨#[c]⟩ : Str)).length → H p = none → Q (.ref p) (upd H p (TxO X.w p (fun j => decide (j ∈ (z.cps.toList.map fun c => (⟨#[c]⟩ : Str)))) c))) := by
  intro pins s σ H vs us Q I r h
  obtain ⟨z, rfl, hz, q⟩ := h
  obtain ⟨u, rfl, ru⟩ := vals1 r
  obtain ⟨t, rfl⟩ := ru
  refine set_text (I.ok.hd hc) hz fun h' tk c Z hc' k => ?_
  exact ⟨.ref _, _, I.laid (t' := tk) k (Nat.le_refl _) (txO_new Z), rfl, q _ c hc' (I.hok.fresh (Nat.le_refl _))⟩
end
end Dl
/-! raw rules that the layer lacks: text * int, t[::-1] of a tuple, repr of a bool -/
namespace Dl
open PySem PySem.Spec PyProof.Rows L2
section
variable {prog : Program} {w : World} {A : Around} {E : Value → Shared → Prop} {s : Shared}
theorem fold_rep (l : List Nat) : ∀ (n : Nat) (acc : List Nat), (List.replicate n l.toArray).foldl (· ++ ·) acc.toArray = (acc ++ (List.replicate n l).flatten).toArray
  | 0, acc => by simp
  | n + 1, acc => by
    rw [List.replicate_succ, List.foldl_cons, List.append_toArray, fold_rep l n, List.replicate_succ, List.flatten_cons, List.append_assoc]
theorem rep_len (l : List Nat) (n : Nat) : (List.replicate n l).flatten.length = n * l.length := by
  induction n with
  | zero => simp
  | succ n ih => rw [List.replicate_succ, List.flatten_cons, List.length_append, ih, Nat.succ_mul, Nat.add_comm]
theorem fm_congr {α β : Type} {f g : α → Option β} : ∀ {l : List α}, (∀ a ∈ l, f a = g a) → l.filterMap f = l.filterMap g
  | [], _ => rfl
  | a :: l, h => by
    rw [List.filterMap_cons, List.filterMap_cons, h a List.mem_cons_self, fm_congr fun a ha => h a (List.mem_cons_of_mem _ ha)]
theorem rev_places (n : Nat) : Builtin.Slice.slicePlaces ((n : Int) - 1) (-1) (-1) = n := by
  unfold Builtin.Slice.slicePlaces
  have h1 : ¬ ((-1 : Int) > 0) := by omega
  simp only [h1, if_false]
  split
  · have : (- (-1 : Int)) = 1 := by omega
    rw [this, Int.ediv_one]
    omega
  · omega
theorem pick_rev (xs : Array Value) : ((List.range xs.size).filterMap fun (m : Nat) => xs[((xs.size : Int) - 1 + (m : Int) * -1).toNat]?) = xs.toList.reverse := by
  have e : ∀ m, m < xs.size → ((xs.size : Int) - 1 + (m : Int) * -1).toNat = xs.size - 1 - m := fun m h => by omega
  have h1 : (List.range xs.size).filterMap (fun (m : Nat) => xs[((xs.size : Int) - 1 + (m : Int) * -1).toNat]?) = (List.range xs.size).filterMap (fun m => xs.toList.reverse[m]?) := by
    refine fm_congr fun m hm => ?_
    have hm := List.mem_range.mp hm
    rw [e m hm, List.getElem?_reverse (by simpa using hm), Array.length_toList, Array.getElem?_toList]
  have h2 : ∀ l : List Value, (List.range l.length).filterMap (fun m => l[m]?) = l := fun l => by
    induction l with
    | nil => rfl
    | cons a l ih =>
      rw [List.length_cons, List.range_succ_eq_map, List.filterMap_cons]
      simp only [List.getElem?_cons_zero, List.filterMap_map]
      refine congrArg (a :: ·) ?_
      exact (fm_congr fun m _ => by simp [Function.comp]).trans ih
  have h3 := h2 xs.toList.reverse
  rw [List.length_reverse, Array.length_toList] at h3
  exact h1.trans h3
theorem sliceApplied_rev {sl : Addr} {vs : Value} {n : Nat} {Q : Int × Int × Nat → Shared → Prop} (hs : s.heap.IsSliceOf sl .none .none vs) (ps : IsPart vs (some (-1)))
    (h : Q ((n : Int) - 1, -1, n) s) : wpAny (model prog w) A (Builtin.Slice.sliceApplied (.ref sl) (pure (n : Int))) Q E s := by
  obtain ⟨os, hos, hcs, hds⟩ := id hs
  unfold Builtin.Slice.sliceApplied Builtin.Slice.sliceFields
  refine wpAny_bind (wpAny_bind (wpAny_field hos hds (x := .none) rfl (wpAny_bind (wpAny_field hos hds (x := .none) rfl (wpAny_bind (wpAny_field hos hds (x := vs) rfl (wpAny_pure ?_)))))))
  refine wpAny_bind (HT.slicePart_ ps ?_)
  show wpAny _ _ (if ((-1 : Int) == 0) = true then _ else _) _ _ s
  rw [if_neg (by decide)]
  refine wpAny_bind (slicePart_none (wpAny_bind (slicePart_none (wpAny_bind (wpAny_pure ?_)))))
  show wpAny _ _ (match Builtin.Slice.sliceAdjust none none (-1) (n : Int) with | (lo, hi) => pure (lo, (-1 : Int), Builtin.Slice.slicePlaces lo hi (-1))) _ _ s
  show wpAny _ _ (pure ((n : Int) - 1, (-1 : Int), Builtin.Slice.slicePlaces ((n : Int) - 1) (-1) (-1))) _ _ s
  rw [rev_places]
  exact wpAny_pure h
theorem getItem_tuple_rev {t sl : Addr} {items : Array Value} {vs : Value} {Q : Value → Shared → Prop} (ht : IsTup s.heap t items) (hs : s.heap.IsSliceOf sl .none .none vs) (ps : IsPart vs (some (-1)))
    (h : Q (.ref s.heap.objs.size) { s with heap := s.heap.push { cls := .type "tuple", data := .seq items.toList.reverse.toArray } })
    (hsz : items.size ≤ sizeLine) : wpAny (model prog w) A (getItem (.ref t) (.ref sl)) Q E s := by
  have htake : sizeOk (.seq items.toList.reverse.toArray) := by
    show items.toList.reverse.toArray.size ≤ sizeLine
    rw [List.size_toArray, List.length_reverse, Array.length_toList]
    exact hsz
  obtain ⟨os, hos, hcs, hds⟩ := id hs
  have hTs : s.TypeIs (.ref sl) "slice" := ⟨os, hos, hcs⟩
  unfold getItem
  try with_reducible refine wpAny_holding ?_
  first | refine wpAny_bind (wpAny_pure ?_) | skip
  refine wpAny_bind (wpAny_sequenceKey ht.typeIs (by decide) ?_)
  refine wpAny_bind (wpAny_callSpecial?_slot (name := Str.ofString "__getitem__") ht.typeIs PyProof.Rows.slot_tuple_getitem
    (wpAny_call_entry PyProof.Rows.slot_tuple_getitem ht.typeIs entry_tuple_getitem ?_ (args_tuple_getitem _ _)))
  show wpAny _ _ (Builtin.Tuple.tupleItemsOf (.ref t) >>= _) _ _ s
  refine wpAny_bind (tupleItemsOf_ ht ?_)
  refine wpAny_bind (wpAny_typeOf hTs ?_)
  rw [if_pos (by decide)]
  refine wpAny_bind (sliceApplied_rev hs ps ?_)
  have hno : ¬ ((((items.size : Int) - 1) == 0 && (-1 : Int) == 1 && items.size == items.size) = true) := by
    intro q
    rw [Bool.and_eq_true, Bool.and_eq_true] at q
    exact absurd q.1.2 (by decide)
  show wpAny _ _ (if ((((items.size : Int) - 1) == 0 && (-1 : Int) == 1 && items.size == items.size) = true) then _ else _) _ _ s
  rw [if_neg hno, pick_rev]
  first
    | exact wpAny_bind (m := Builtin.Tuple.tupleExact _) (wpAny_newObj_type (wpAny_pure ⟨_, rfl, wpAny_pure h⟩) htake)
    | exact wpAny_bind (m := Builtin.Tuple.tupleExact _) (wpAny_newObj_type (wpAny_bind (wpAny_pure (wpAny_pure ⟨_, rfl, wpAny_pure h⟩))) htake)
    | exact wpAny_bind (wpAny_bind (m := Builtin.Tuple.tupleExact _) (wpAny_newObj_type (wpAny_pure (wpAny_pure ⟨_, rfl, wpAny_pure h⟩)) htake))
    | exact wpAny_bind (wpAny_bind (m := Builtin.Tuple.tupleExact _) (wpAny_newObj_type (wpAny_pure ⟨_, rfl, wpAny_pure h⟩) htake))
end
section
variable {X : Cx}
theorem rep_zero {l : List Nat} (h : l = []) (n : Nat) : (List.replicate n l).flatten = l := by
  subst h
  exact List.eq_nil_of_length_eq_zero (by rw [rep_len]; rfl)
theorem rep_one (l : List Nat) : (List.replicate 1 l).flatten = l := by
  rw [List.replicate_succ, List.flatten_cons]
  exact List.append_nil l
theorem op_smul : OpR X (binaryOp .Mult) (fun x y H Q => ∃ (l : List Nat) (n : Nat), x = .str ⟨l.toArray⟩ ∧ y = .int n ∧ l.length * n ≤ 16777216 ∧ n ≤ 16777216 ∧ Q (.str ⟨(List.replicate n l).flatten.toArray⟩) H) := by
  intro pins s σ H x y v u Q I rx ry h
  obtain ⟨l, n, rfl, rfl, hz, hn, q⟩ := h
  obtain ⟨t, rfl⟩ := rx
  obtain ⟨t', rfl⟩ := ry
  have el : (⟨l.toArray⟩ : Str).length = l.length := List.size_toArray
  refine PySem.P.mul_str ?_ ?_ ?_ ?_
  · rw [decide_eq_false (by omega), decide_eq_false (by omega)]; rfl
  · intro h1 _ h2
    rw [el] at h2
    have h3 : (l.length : Int) * n ≤ 2 ^ 63 - 1 := by
      have : ((l.length * n : Nat) : Int) ≤ ((16777216 : Nat) : Int) := Int.ofNat_le.mpr hz
      rw [Int.natCast_mul] at this
      omega
    have h4 : (0 : Int) < n := by
      rcases Nat.eq_zero_or_pos n with z | z
      · exact absurd (by rw [z]; decide) h1
      · exact Int.ofNat_lt.mpr z
    have := Int.le_ediv_of_mul_le h4 h3
    omega
  · intro _ _
    show decide _ = false
    rw [el, Int.toNat_natCast]
    exact decide_eq_false (by rw [sizeLine_eq]; omega)
  · by_cases h1 : (n : Int) < 1
    · have : n = 0 := by omega
      subst this
      rw [if_pos h1]
      exact ⟨by decide, .str _, H, I.tok _, ⟨_, rfl⟩, q⟩
    · rw [if_neg h1]
      by_cases h2 : ((n : Int) == 1 || (⟨l.toArray⟩ : Str).length == 0) = true
      · rw [if_pos h2]
        have e : (List.replicate n l).flatten = l := by
          rw [Bool.or_eq_true] at h2
          rcases h2 with h2 | h2
          · have : n = 1 := by have := eq_of_beq h2; omega
            rw [this]
            exact rep_one l
          · rw [el] at h2
            exact rep_zero (List.eq_nil_of_length_eq_zero (eq_of_beq h2)) n
        rw [e] at q
        exact ⟨.str _, H, I, ⟨_, rfl⟩, q⟩
      · rw [if_neg h2, Int.toNat_natCast]
        have e := fold_rep l n []
        rw [List.nil_append] at e
        have e2 : (List.replicate n (⟨l.toArray⟩ : Str).cps).foldl (· ++ ·) #[] = (List.replicate n l).flatten.toArray := e
        rw [e2]
        refine ⟨?_, .str _, H, I.tok _, ⟨_, rfl⟩, q⟩
        show (List.replicate n l).flatten.toArray.size ≤ sizeLine
        rw [List.size_toArray, rep_len, sizeLine_eq, Nat.mul_comm]
        exact hz
theorem call_repr_bl : CallR X (.builtin "repr") (fun xs H Q => ∃ b, xs = [.bl b] ∧ Q (.str (if b then "True" else "False")) H) := by
  intro pins s σ H xs us Q I r h
  obtain ⟨b, rfl, q⟩ := h
  obtain ⟨u, rfl, e⟩ := vals1 r
  cases e
  exact PySem.P.repr_of_bool ⟨.str _, H, I.tok _, ⟨_, rfl⟩, q⟩
def tRevT (K : PySem.W.Frag) (te : TE) : TE := fun σ H Q => te σ H fun x H1 => ∃ a xs, x = .ref a ∧ SqT K H1 a xs ∧ ∀ p, H1 p = none → Q (.ref p) (upd H1 p (.tup xs.reverse))
theorem pe_revT {e : Expr} {te : TE} {k : Nat} {p1 p2 p3 pos : Pos} (he : PE X e te) : PE X (.Subscript e (.Slice none none (some (.UnaryOp .USub (.Constant (.int 1) k p1) p2)) p3) pos) (tRevT X.K te) := by
  refine ⟨fun pins s σ H Q I h => ?_⟩
  refine Subscript_ (thn (he.run pins s σ H _ I h) fun v s1 ⟨x, H1, I1, r1, q1⟩ => ?_)
  obtain ⟨a, xs, ex, hx, q⟩ := q1
  subst ex
  cases r1
  have hst : PO X (some (.UnaryOp .USub (.Constant (.int 1) k p1) p2)) (tPart (tUn (rU fun i => .int (-i)) (tC (.int 1)))) := po_some (pe_un un_neg pe_int)
  refine wpAny_Slice (thn (po_none.run pins s1 σ H1 (fun o H2 => o = none ∧ H2 = H1) I1 ⟨rfl, rfl⟩) fun vl s2 ⟨l, H2, I2, pl, el, e2⟩ => ?_)
  subst el e2
  refine thn (po_none.run pins s2 σ H2 (fun o H3 => o = none ∧ H3 = H2) I2 ⟨rfl, rfl⟩) fun vu s3 ⟨u, H3, I3, pu, eu, e3⟩ => ?_
  subst eu e3
  refine thn (hst.run pins s3 σ H3 (fun o H4 => o = some (-1) ∧ H4 = H3) I3 ⟨1, rfl, -1, rfl, rfl, rfl⟩) fun vs s4 ⟨o, H4, I4, ps, eo, e4⟩ => ?_
  subst eo e4
  cases pl
  cases pu
  have I5 : Inv X pins σ H4 { s4 with heap := s4.heap.push { cls := .type "slice", data := .fields #[.none, .none, vs] } } := I4.kept (t' := s4.toks) fun b ob q => Heap.get?_push_of_some _ q
  obtain ⟨its, r, ht, hz⟩ := I5.tuple hx
  have hlen := r.length
  show wpAny (model X.prog X.w) X.A (subscriptTail e (.Slice none none (some (.UnaryOp .USub (.Constant (.int 1) k p1) p2)) p3) (.ref a) (.ref s4.heap.objs.size)) (EP X pins σ Q) X.xe { s4 with heap := s4.heap.push { cls := .type "slice", data := .fields #[.none, .none, vs] } }
  refine tail_any (ops := [.ref a, .ref s4.heap.objs.size]) ht.typeIs (PyProof.Rows.slot_tuple_getitem.lookup) ?_ (by with_unfolding_all rfl)
  refine getItem_tuple_rev ht (Heap.IsSliceOf.new _ .none .none vs) ps ?_ (by rw [List.size_toArray]; omega)
  refine ⟨.ref _, _, I5.laid (t' := s4.toks) (o := .tup xs.reverse) (fun b ob q => Heap.get?_push_of_some _ q) (Nat.le_refl _) ?_, rfl, q _ (I5.hok.fresh (Nat.le_refl _))⟩
  exact ⟨by rw [List.length_reverse]; exact hz, _, r.reverse, IsTup.new _ _⟩
end
end Dl
/-! built-in calls and operators, over data -/
namespace Dl
open PySem PySem.Spec PyProof.Rows L2
open Evl (Ex)

/-! ### isinstance -/
def tyN : D → String
  | .none => "NoneType"
  | .bool _ => "bool"
  | .int _ => "int"
  | .str _ => "str"
  | .list _ => "list"
  | .tuple _ => "tuple"
  | .dict _ => "dict"
def isi (d : D) (T : String) : Bool := tyN d == T || (tyN d == "bool" && T == "int")
theorem kit_all : ∀ T ∈ ["str", "int", "bool", "tuple", "list", "dict"], ∀ t ∈ ["NoneType", "bool", "int", "str", "list", "tuple", "dict"], kitB t T = some (t == T || (t == "bool" && T == "int")) := by decide +kernel
theorem tyN_in (d : D) : tyN d ∈ ["NoneType", "bool", "int", "str", "list", "tuple", "dict"] := by cases d <;> simp [tyN]
theorem dp_ty {K : PySem.W.Frag} {G H : Hp} {x : V} {d : D} (e : Ex G H) (h : DP G x d) : TyX K H x (.type (tyN d)) := by
  cases h with
  | non => exact .base .non
  | bl b => exact .base (.bl b)
  | int i => exact .base (.int i)
  | str x => exact .base (.str x)
  | lst h a => exact .base (.lst (e _ _ h))
  | tup h a => exact .base (.tup (e _ _ h))
  | dct h a => exact .fDict (e _ _ h)
theorem dp_kit {K : PySem.W.Frag} {d : D} {T : String} (hT : T ∈ ["str", "int", "bool", "tuple", "list", "dict"]) : PySem.W.kitOne K (.type (tyN d)) (.type T) = some (isi d T) := kit_ty (kit_all T hT _ (tyN_in d))

section
variable {X : Cx} {R : Addr → Prop} {e a b c : Expr} {es : List Expr} {ss : List Kd} {O O1 O2 O3 O' : Store} {k ka kb : Kd} {ks : List Kd} {Φ Ψ : Kd → Store → Prop} {pos : Pos}
theorem ev_isi {x : Str} {p : Pos} {d : D} {T : String} (ha : EV X R e ss O (.dat d) O1) (hc : EV X R c ss O1 (.val (.ty T)) O1) (hT : T ∈ ["str", "int", "bool", "tuple", "list", "dict"]) (hm : X.mg "isinstance" = none) (hx : x = "isinstance" := by rfl) (hg : Gl X x := by rfl)
    (he : starEach [e, c] X.env = (false, eval e X.env) :: starEach [c] X.env := by exact star_ne rfl) (he2 : starEach [c] X.env = (false, eval c X.env) :: starEach [] X.env := by exact star_ne rfl) (hpl : (backTo pos (starEach [c] X.env)).any (·.1) = false := by rfl) : EV X R (.Call (.Name x p) [e, c] [] pos) ss O (.dat (.bool (isi d T))) O1 := by
  subst hx
  refine ev_callB call_isi hg hm boot_isinstance (av_cons ha (av_cons hc av_nil he2) he) ?_ (he := he) (hpl := hpl)
  intro G0 H0 G H σ ss xs S h1 Q q
  obtain ⟨v, w, rfl, r1, r2⟩ := kinds2 h1
  have : w = .ty T := r2
  subst this
  exact ⟨v, .ty T, _, _, _, rfl, .ty T, dp_ty S.gh r1, dp_kit hT, q.d S (Ex.refl G) (DP.bl _) ⟨rfl, rfl⟩⟩
/-- isinstance(x, (A, B)) -/
theorem ev_isi2 {x : Str} {p p2 : Pos} {k : Nat} {d : D} {T U : String} (ha : EV X R e ss O (.dat d) O1) (hb : EV X R b ss O1 (.val (.ty T)) O1) (hc : EV X R c ss O1 (.val (.ty U)) O1) (hT : T ∈ ["str", "int", "bool", "tuple", "list", "dict"]) (hU : U ∈ ["str", "int", "bool", "tuple", "list", "dict"]) (hm : X.mg "isinstance" = none) (hx : x = "isinstance" := by rfl) (hg : Gl X x := by rfl)
    (hbc : starEach [b, c] X.env = (false, eval b X.env) :: starEach [c] X.env := by exact star_ne rfl) (hcc : starEach [c] X.env = (false, eval c X.env) :: starEach [] X.env := by exact star_ne rfl) 
    (he : starEach [e, .Tuple [b, c] k p2] X.env = (false, eval e X.env) :: starEach [.Tuple [b, c] k p2] X.env := by exact star_ne rfl) (he2 : starEach [.Tuple [b, c] k p2] X.env = (false, eval (.Tuple [b, c] k p2) X.env) :: starEach [] X.env := by exact star_ne rfl) (hpl : (backTo pos (starEach [.Tuple [b, c] k p2] X.env)).any (·.1) = false := by rfl) : EV X R (.Call (.Name x p) [e, .Tuple [b, c] k p2] [] pos) ss O (.dat (.bool (isi d T || isi d U))) O1 := by
  subst hx
  intro G0 H0 G H σ S L Q q
  refine wE_of (pe_callB call_isiT hg hm boot_isinstance paW (by decide) (by decide) he hpl) (wA_of (pa_cons peW (pa_cons (pe_tup paW) pa_nil he2) he) ?_)
  refine ha G0 H0 G H σ S L _ fun G1 H1 v k1 O2 S1 e1 r1 ⟨h1, h2⟩ => ?_
  subst h1 h2
  refine (av_cons hb (av_cons hc av_nil hcc) hbc) G0 H0 G1 H1 σ S1 L _ fun G2 H2 vs ks O3 S2 e2 r2 ⟨h3, h4⟩ => ?_
  subst h3 h4
  obtain ⟨u, w, rfl, r3, r4⟩ := kinds2 r2
  have : u = .ty T := r3
  subst this
  have : w = .ty U := r4
  subst this
  refine ⟨by rw [sizeLine_eq]; exact (by decide : 2 ≤ 16777216), fun p hp => ?_⟩
  have eg : Ex G2 (upd G2 p (.tup [.ty T, .ty U])) := Ex.new (S2.free hp)
  have S3 := S2.data hp (.tup [.ty T, .ty U])
  refine ⟨v, p, [.ty T, .ty U], _, [.type T, .type U], _, rfl, upd_same, .cons (.ty T) (.cons (.ty U) .nil), dp_ty (S3.gh) (dp_ex (e2.trans eg) r1), ?_, q.d S3 ((e1.trans e2).trans eg) (DP.bl _) ⟨rfl, rfl⟩⟩
  cases hb : isi d T with
  | true => exact kitAny_cons (dp_kit hT) (fun z => by rw [hb] at z; cases z) (fun _ => rfl)
  | false => exact kitAny_cons (dp_kit hT) (fun _ => kitAny_cons (dp_kit hU) (fun z => by rw [z]; exact kitAny_nil) (fun z => z)) (fun z => by rw [hb] at z; cases z)
/-- a call of a built-in of one, of two arguments -/
theorem ej_b1 {id : String} {r : List V → Hp → VK → Prop} {x : Str} {p : Pos} (hc : CallR X (.builtin id) r) (ha : EV X R e ss O k O1) (h : CJ X r [k] O1 Φ) (hm : X.mg x = none) (hv : bootBuiltins x = some (.builtin id)) (hg : Gl X x := by rfl)
    (hn : x ≠ "__name__" := by decide) (hdb : (x == ("__debug__" : Str)) = false := by decide) (he : starEach [e] X.env = (false, eval e X.env) :: starEach [] X.env := by exact star_ne rfl) (hpl : (backTo pos (starEach [] X.env)).any (·.1) = false := by rfl) : EJ X R (.Call (.Name x p) [e] [] pos) ss O Φ :=
  ev_callB hc hg hm hv (av_cons ha av_nil he) h hn hdb he hpl
theorem ej_t1 {id : String} {r : List V → Hp → VK → Prop} {x : Str} {p : Pos} (hc : CallR X (.type id) r) (ha : EV X R e ss O k O1) (h : CJ X r [k] O1 Φ) (hm : X.mg x = none) (hv : bootBuiltins x = some (.type id)) (hg : Gl X x := by rfl)
    (hn : x ≠ "__name__" := by decide) (hdb : (x == ("__debug__" : Str)) = false := by decide) (he : starEach [e] X.env = (false, eval e X.env) :: starEach [] X.env := by exact star_ne rfl) (hpl : (backTo pos (starEach [] X.env)).any (·.1) = false := by rfl) : EJ X R (.Call (.Name x p) [e] [] pos) ss O Φ :=
  ev_callTy hc hg hm hv (av_cons ha av_nil he) h hn hdb he hpl
theorem ej_b2 {id : String} {r : List V → Hp → VK → Prop} {x : Str} {p : Pos} {f : Expr} (hc : CallR X (.builtin id) r) (ha : EV X R e ss O ka O1) (hb : EV X R f ss O1 kb O2) (h : CJ X r [ka, kb] O2 Φ) (hm : X.mg x = none) (hv : bootBuiltins x = some (.builtin id)) (hg : Gl X x := by rfl)
    (hn : x ≠ "__name__" := by decide) (hdb : (x == ("__debug__" : Str)) = false := by decide) (he : starEach [e, f] X.env = (false, eval e X.env) :: starEach [f] X.env := by exact star_ne rfl) (he2 : starEach [f] X.env = (false, eval f X.env) :: starEach [] X.env := by exact star_ne rfl) (hpl : (backTo pos (starEach [f] X.env)).any (·.1) = false := by rfl) : EJ X R (.Call (.Name x p) [e, f] [] pos) ss O Φ :=
  ev_callB hc hg hm hv (av_cons ha (av_cons hb av_nil he2) he) h hn hdb he hpl
/-- .. of a new object that is let go -/
theorem ej_b1N {id : String} {r : List V → Hp → VK → Prop} {x : Str} {p : Pos} {b : Ob} (hc : CallR X (.builtin id) r) (ha : EN X R e ss O b O1) (h : ∀ q, CJ X r [.val (.ref q)] ((q, b) :: O1) fun k O' => Φ k (O'.drop 1)) (hm : X.mg x = none) (hv : bootBuiltins x = some (.builtin id)) (hg : Gl X x := by rfl)
    (hn : x ≠ "__name__" := by decide) (hdb : (x == ("__debug__" : Str)) = false := by decide) (he : starEach [e] X.env = (false, eval e X.env) :: starEach [] X.env := by exact star_ne rfl) (hpl : (backTo pos (starEach [] X.env)).any (·.1) = false := by rfl) : EJ X R (.Call (.Name x p) [e] [] pos) ss O Φ := fun G0 H0 G H σ S L Q q =>
  wE_of (pe_callB hc hg hm hv (pa_cons peW pa_nil he) hn hdb he hpl) (ha G0 H0 G H σ S L _ fun G1 H1 v k O2 S1 e1 r1 ⟨p, h1, h2⟩ => by
    subst h1 h2
    refine h p G0 H0 G1 H1 σ ss [v] S1 (.cons r1 .nil) Q fun G2 H2 v2 k2 O3 S2 e2 r2 p2 => ?_
    exact q G2 H2 v2 k2 _ (S2.less (fun q hq => List.mem_of_mem_drop hq) (S2.nd.sublist ((List.drop_sublist 1 O3).map _))) (e1.trans e2) r2 p2)
theorem ej_t1N {id : String} {r : List V → Hp → VK → Prop} {x : Str} {p : Pos} {b : Ob} (hc : CallR X (.type id) r) (ha : EN X R e ss O b O1) (h : ∀ q, CJ X r [.val (.ref q)] ((q, b) :: O1) fun k O' => Φ k (O'.drop 1)) (hm : X.mg x = none) (hv : bootBuiltins x = some (.type id)) (hg : Gl X x := by rfl)
    (hn : x ≠ "__name__" := by decide) (hdb : (x == ("__debug__" : Str)) = false := by decide) (he : starEach [e] X.env = (false, eval e X.env) :: starEach [] X.env := by exact star_ne rfl) (hpl : (backTo pos (starEach [] X.env)).any (·.1) = false := by rfl) : EJ X R (.Call (.Name x p) [e] [] pos) ss O Φ := fun G0 H0 G H σ S L Q q =>
  wE_of (pe_callTy hc hg hm hv (pa_cons peW pa_nil he) hn hdb he hpl) (ha G0 H0 G H σ S L _ fun G1 H1 v k O2 S1 e1 r1 ⟨p, h1, h2⟩ => by
    subst h1 h2
    refine h p G0 H0 G1 H1 σ ss [v] S1 (.cons r1 .nil) Q fun G2 H2 v2 k2 O3 S2 e2 r2 p2 => ?_
    exact q G2 H2 v2 k2 _ (S2.less (fun q hq => List.mem_of_mem_drop hq) (S2.nd.sublist ((List.drop_sublist 1 O3).map _))) (e1.trans e2) r2 p2)
theorem kinds_one {G : Hp} {xs : List V} {k : Kd} (h : Kinds G xs [k]) : ∃ v, xs = [v] ∧ KdAt G v k := kinds1 h

/-! ### all, int, repr, min, max -/
theorem dps_bools {G : Hp} : ∀ {bs : List Bool} {vs : List V}, DPs G vs (bs.map PyData.bool) → vs = bs.map V.bl
  | [], _, h => by cases h; rfl
  | b :: bs, _, h => by
    cases h with
    | cons r t => rw [dp_bl r, dps_bools t]; rfl
theorem dps_ints {G : Hp} : ∀ {bs : List Int} {vs : List V}, DPs G vs (bs.map PyData.int) → vs = bs.map V.int
  | [], _, h => by cases h; rfl
  | b :: bs, _, h => by
    cases h with
    | cons r t => rw [dp_int r, dps_ints t]; rfl
theorem dps_strs {G : Hp} : ∀ {bs : List Str} {vs : List V}, DPs G vs (bs.map PyData.str) → vs = bs.map V.str
  | [], _, h => by cases h; rfl
  | b :: bs, _, h => by
    cases h with
    | cons r t => rw [dp_str r, dps_strs t]; rfl
theorem ob_ol {G0 H0 G H : Hp} {σ : L2.St} {q : Addr} {ds : List D} (S : Sta G0 H0 G H σ ss ((q, .ol ds) :: O)) : ∃ vs, H q = some (.lst vs) ∧ DPs G vs ds := (S.ob _ List.mem_cons_self).1
theorem ev_all {ds : List D} {bs : List Bool} {x : Str} {p : Pos} (ha : EN X R e ss O (.ol ds) O1) (hb : ds = bs.map PyData.bool) (hc : X.calm = true) (hm : X.mg "all" = none) (hx : x = "all" := by rfl) (hg : Gl X x := by rfl) (he : starEach [e] X.env = (false, eval e X.env) :: starEach [] X.env := by exact star_ne rfl) :
    EV X R (.Call (.Name x p) [e] [] pos) ss O (.dat (.bool (bs.all id))) O1 := by
  subst hx hb
  refine ej_b1N (cr_all hc) ha (fun q => ?_) hm (by decide +kernel) hg (by decide) (by decide) he
  intro G0 H0 G H σ ss xs S h1 Q w
  obtain ⟨v, rfl, r⟩ := kinds1 h1
  have : v = .ref q := r
  subst this
  obtain ⟨vs, hv, rv⟩ := ob_ol S
  rw [dps_bools rv] at hv
  exact ⟨q, bs, rfl, .of hv, w.d S (Ex.refl G) (DP.bl _) ⟨rfl, rfl⟩⟩
theorem ev_intB {b : Bool} {x : Str} {p : Pos} (ha : EV X R e ss O (.dat (.bool b)) O1) (hm : X.mg "int" = none) (hx : x = "int" := by rfl) (hg : Gl X x := by rfl) (he : starEach [e] X.env = (false, eval e X.env) :: starEach [] X.env := by exact star_ne rfl) :
    EV X R (.Call (.Name x p) [e] [] pos) ss O (.dat (.int (if b then 1 else 0))) O1 := by
  subst hx
  refine ej_t1 call_int1 ha ?_ hm boot_int hg (by decide) (by decide) he
  intro G0 H0 G H σ ss xs S h1 Q w
  obtain ⟨v, rfl, r⟩ := kinds1 h1
  exact .inr ⟨b, by rw [dp_bl r], w.d S (Ex.refl G) (DP.int _) ⟨rfl, rfl⟩⟩
theorem ev_reprB {b : Bool} {x : Str} {p : Pos} (ha : EV X R e ss O (.dat (.bool b)) O1) (hm : X.mg "repr" = none) (hx : x = "repr" := by rfl) (hg : Gl X x := by rfl) (he : starEach [e] X.env = (false, eval e X.env) :: starEach [] X.env := by exact star_ne rfl) :
    EV X R (.Call (.Name x p) [e] [] pos) ss O (.dat (.str (if b then "True" else "False"))) O1 := by
  subst hx
  refine ej_b1 call_repr_bl ha ?_ hm (by decide +kernel) hg (by decide) (by decide) he
  intro G0 H0 G H σ ss xs S h1 Q w
  obtain ⟨v, rfl, r⟩ := kinds1 h1
  exact ⟨b, by rw [dp_bl r], w.d S (Ex.refl G) (DP.str _) ⟨rfl, rfl⟩⟩
theorem ev_max2 {i j : Int} {x : Str} {p : Pos} {f : Expr} (ha : EV X R e ss O (.dat (.int i)) O1) (hb : EV X R f ss O1 (.dat (.int j)) O2) (hc : X.calm = true) (hm : X.mg "max" = none) (hx : x = "max" := by rfl) (hg : Gl X x := by rfl) (he : starEach [e, f] X.env = (false, eval e X.env) :: starEach [f] X.env := by exact star_ne rfl) (he2 : starEach [f] X.env = (false, eval f X.env) :: starEach [] X.env := by exact star_ne rfl) (hpl : (backTo pos (starEach [f] X.env)).any (·.1) = false := by rfl) :
    EV X R (.Call (.Name x p) [e, f] [] pos) ss O (.dat (.int (if j > i then j else i))) O2 := by
  subst hx
  refine ej_b2 (call_max2 hc) ha hb ?_ hm boot_max hg (by decide) (by decide) he he2 hpl
  intro G0 H0 G H σ ss xs S h1 Q w
  obtain ⟨u, v, rfl, r, r'⟩ := kinds2 h1
  exact ⟨i, j, by rw [dp_int r, dp_int r'], w.d S (Ex.refl G) (DP.int _) ⟨rfl, rfl⟩⟩
theorem ev_min2 {i j : Int} {x : Str} {p : Pos} {f : Expr} (ha : EV X R e ss O (.dat (.int i)) O1) (hb : EV X R f ss O1 (.dat (.int j)) O2) (hc : X.calm = true) (hm : X.mg "min" = none) (hx : x = "min" := by rfl) (hg : Gl X x := by rfl) (he : starEach [e, f] X.env = (false, eval e X.env) :: starEach [f] X.env := by exact star_ne rfl) (he2 : starEach [f] X.env = (false, eval f X.env) :: starEach [] X.env := by exact star_ne rfl) (hpl : (backTo pos (starEach [f] X.env)).any (·.1) = false := by rfl) :
    EV X R (.Call (.Name x p) [e, f] [] pos) ss O (.dat (.int (if j < i then j else i))) O2 := by
  subst hx
  refine ej_b2 (call_min2 hc) ha hb ?_ hm boot_min hg (by decide) (by decide) he he2 hpl
  intro G0 H0 G H σ ss xs S h1 Q w
  obtain ⟨u, v, rfl, r, r'⟩ := kinds2 h1
  exact ⟨i, j, by rw [dp_int r, dp_int r'], w.d S (Ex.refl G) (DP.int _) ⟨rfl, rfl⟩⟩

/-! ### list, tuple -/
theorem en_listOf {d : D} {ds : List D} {x : Str} {p : Pos} (ha : EV X R e ss O (.dat d) O1) (hd : d = .list ds ∨ d = .tuple ds) (hm : X.mg "list" = none) (hx : x = "list" := by rfl) (hg : Gl X x := by rfl) (he : starEach [e] X.env = (false, eval e X.env) :: starEach [] X.env := by exact star_ne rfl) :
    EN X R (.Call (.Name x p) [e] [] pos) ss O (.ol ds) O1 := by
  subst hx
  refine ej_t1 call_list_of ha ?_ hm boot_list hg (by decide) (by decide) he
  intro G0 H0 G H σ ss xs S h1 Q w
  obtain ⟨v, rfl, r⟩ := kinds1 h1
  rcases hd with rfl | rfl
  · obtain ⟨a, vs, rfl, g1, rv⟩ := dp_lst r
    exact ⟨a, vs, rfl, .inl (.of (S.gh _ _ g1)), fun l hl => w.v (S.new hl (b := .ol ds) ⟨vs, upd_same, rv⟩) (Ex.refl G) ⟨l, rfl, rfl⟩⟩
  · obtain ⟨a, vs, rfl, g1, rv⟩ := dp_tup r
    exact ⟨a, vs, rfl, .inr (.of (S.gh _ _ g1)), fun l hl => w.v (S.new hl (b := .ol ds) ⟨vs, upd_same, rv⟩) (Ex.refl G) ⟨l, rfl, rfl⟩⟩
theorem ev_tupOf {d : D} {ds : List D} {x : Str} {p : Pos} (ha : EV X R e ss O (.dat d) O1) (hd : d = .list ds ∨ d = .tuple ds) (hm : X.mg "tuple" = none) (hx : x = "tuple" := by rfl) (hg : Gl X x := by rfl) (he : starEach [e] X.env = (false, eval e X.env) :: starEach [] X.env := by exact star_ne rfl) :
    EV X R (.Call (.Name x p) [e] [] pos) ss O (.dat (.tuple ds)) O1 := by
  subst hx
  refine ej_t1 call_tuple_of ha ?_ hm boot_tuple hg (by decide) (by decide) he
  intro G0 H0 G H σ ss xs S h1 Q w
  obtain ⟨v, rfl, r⟩ := kinds1 h1
  rcases hd with rfl | rfl
  · obtain ⟨a, vs, rfl, g1, rv⟩ := dp_lst r
    refine ⟨a, vs, rfl, .inl ⟨.of (S.gh _ _ g1), fun l hl => ?_⟩⟩
    have eg : Ex G (upd G l (.tup vs)) := Ex.new (S.free hl)
    exact w.d (S.data hl (.tup vs)) eg (DP.tup upd_same (dpAll_ex eg rv)) ⟨rfl, rfl⟩
  · obtain ⟨a, vs, rfl, g1, rv⟩ := dp_tup r
    exact ⟨a, vs, rfl, .inr ⟨.of (S.gh _ _ g1), w.d S (Ex.refl G) (DP.tup g1 rv) ⟨rfl, rfl⟩⟩⟩
theorem ev_tupN {ds : List D} {x : Str} {p : Pos} (ha : EN X R e ss O (.ol ds) O1) (hm : X.mg "tuple" = none) (hx : x = "tuple" := by rfl) (hg : Gl X x := by rfl) (he : starEach [e] X.env = (false, eval e X.env) :: starEach [] X.env := by exact star_ne rfl) :
    EV X R (.Call (.Name x p) [e] [] pos) ss O (.dat (.tuple ds)) O1 := ev_tupOf ha.frz (.inl rfl) hm hx hg he

/-! ### join -/
theorem joins_nil : ∀ xs : List (List Nat), Str.join Str.empty (xs.map sL) = sL xs.flatten
  | [] => rfl
  | [x] => by simp [Str.join]
  | x :: y :: r => by
    show sL x ++ Str.empty ++ Str.join Str.empty ((y :: r).map sL) = _
    rw [joins_nil (y :: r)]
    have : (Str.empty : Str) = sL [] := rfl
    rw [this, sL_app, sL_app, List.flatten_cons (l := x), show x ++ [] = x from List.append_nil x]
theorem sum_lens (xs : List (List Nat)) : ((xs.map sL).map (·.length)).sum = xs.flatten.length := by
  induction xs with
  | nil => rfl
  | cons x xs ih => rw [List.map_cons, List.map_cons, List.sum_cons, ih, List.flatten_cons, List.length_append, sL_len]
theorem ev_join {s : Str} {ds : List D} {xs : List (List Nat)} {apos : Pos} {f : Expr} (ha : EV X R a ss O (.dat (.str s)) O1) (hs : s = sL []) (hf : EV X R f ss O1 (.dat (.list ds)) O2) (hd : ds = xs.map dS) (hz : xs.flatten.length ≤ 16777216)
    (he : starEach [f] X.env = [(false, eval f X.env)] := by exact star_ne rfl) (hbase : attributeBase a "join" X.env (eval a X.env) = eval a X.env := by rfl) (hline : (apos.endLine == pos.line) = true := by rfl) : EV X R (.Call (.Attribute a "join" apos) [f] [] pos) ss O (.dat (dS xs.flatten)) O2 := fun G0 H0 G H σ S L Q q =>
  wE_of (pe_join peW peW he hbase hline) (ha G0 H0 G H σ S L _ fun G1 H1 v k1 O3 S1 e1 r1 ⟨h1, h2⟩ => by
    subst h1 h2 hs hd
    refine ⟨⟨_, dp_str r1⟩, hf G0 H0 G1 H1 σ S1 L _ fun G2 H2 v2 k2 O4 S2 e2 r2 ⟨h3, h4⟩ => ?_⟩
    subst h3 h4
    obtain ⟨p, vs, rfl, g1, rv⟩ := dp_lst r2
    have ev := dps_strs (bs := xs.map sL) (by rw [List.map_map]; exact rv)
    subst ev
    refine ⟨sL [], p, xs.map sL, dp_str r1, rfl, .inl (.of (S2.gh _ _ g1)), ?_, ?_⟩
    · rw [sum_lens]
      show _ + _ * 0 ≤ _
      omega
    · rw [TL.join_eq]
      have e := joins_nil xs
      rw [show (sL [] : Str) = Str.empty from rfl, e]
      exact q.d S2 (e1.trans e2) (DP.str _) ⟨rfl, rfl⟩)

/-! ### more operators -/
theorem ev_isB {b1 b2 : Bool} (ha : EV X R a ss O (.dat (.bool b1)) O1) (hb : EV X R b ss O1 (.dat (.bool b2)) O2) (hm : behindInMarks .Is b = false := by rfl) : EV X R (.Compare a [.Is] [b] pos) ss O (.dat (.bool (decide (b1 = b2)))) O2 :=
  ev_cmp op_is_bl ha hb (fun G0 H0 G H σ ss x y S h1 h2 Q q => ⟨b1, b2, dp_bl h1, dp_bl h2, q.d S (Ex.refl G) (DP.bl _) ⟨rfl, rfl⟩⟩) hm
theorem ev_isnB {b1 b2 : Bool} (ha : EV X R a ss O (.dat (.bool b1)) O1) (hb : EV X R b ss O1 (.dat (.bool b2)) O2) (hm : behindInMarks .IsNot b = false := by rfl) : EV X R (.Compare a [.IsNot] [b] pos) ss O (.dat (.bool (!decide (b1 = b2)))) O2 :=
  ev_cmp op_isnot_bl ha hb (fun G0 H0 G H σ ss x y S h1 h2 Q q => ⟨b1, b2, dp_bl h1, dp_bl h2, q.d S (Ex.refl G) (DP.bl _) ⟨rfl, rfl⟩⟩) hm
theorem ev_smul {l : List Nat} {n : Nat} (ha : EV X R a ss O (.dat (dS l)) O1) (hb : EV X R b ss O1 (.dat (.int n)) O2) (hl : l.length * n ≤ 16777216) (hn : n ≤ 16777216) : EV X R (.BinOp a .Mult b pos) ss O (.dat (dS (List.replicate n l).flatten)) O2 :=
  ev_op op_smul ha hb fun G0 H0 G H σ ss x y S h1 h2 Q q => ⟨l, n, dp_str h1, dp_int h2, hl, hn, q.d S (Ex.refl G) (DP.str _) ⟨rfl, rfl⟩⟩
theorem ev_tmul {ds : List D} {n : Nat} (ha : EV X R a ss O (.dat (.tuple ds)) O1) (hb : EV X R b ss O1 (.dat (.int n)) O2) (h0 : ds ≠ []) (h2 : 2 ≤ n) (hn : n ≤ 1000) (hl : ds.length ≤ 1000) : EV X R (.BinOp a .Mult b pos) ss O (.dat (.tuple (List.replicate n ds).flatten)) O2 :=
  ev_op op_repT ha hb fun G0 H0 G H σ ss x y S h1 h2 Q q => by
    obtain ⟨p1, xs, e1, g1, r1⟩ := dp_tup h1
    refine ⟨p1, n, xs, e1, dp_int h2, .of (S.gh _ _ g1), fun z => h0 ?_, by omega, by omega, by rw [dps_len r1]; exact hl, fun p hp => ?_⟩
    · rw [z] at r1
      cases r1
      rfl
    · have eg : Ex G (upd G p (.tup (List.replicate n xs).flatten)) := Ex.new (S.free hp)
      exact q.d (S.data hp _) eg (DP.tup upd_same (dpAll_ex eg (dps_rep r1 n))) ⟨rfl, rfl⟩
theorem dps_rev {G : Hp} {xs : List V} {ds : List D} (h : DPs G xs ds) : DPs G xs.reverse ds.reverse := by
  induction ds generalizing xs with
  | nil => cases h; exact .nil
  | cons d ds ih =>
    cases h with
    | cons r t =>
      rw [List.reverse_cons, List.reverse_cons]
      exact dpAll_app (ih t) (.cons r .nil)
theorem ev_revT {ds : List D} {k : Nat} {p1 p2 p3 : Pos} (ha : EV X R e ss O (.dat (.tuple ds)) O1) : EV X R (.Subscript e (.Slice none none (some (.UnaryOp .USub (.Constant (.int 1) k p1) p2)) p3) pos) ss O (.dat (.tuple ds.reverse)) O1 := fun G0 H0 G H σ S L Q q =>
  wE_of (pe_revT peW) (ha G0 H0 G H σ S L _ fun G1 H1 v k1 O3 S1 e1 r1 ⟨h1, h2⟩ => by
    subst h1 h2
    obtain ⟨a, xs, rfl, g1, rv⟩ := dp_tup r1
    refine ⟨a, xs, rfl, .of (S1.gh _ _ g1), fun p hp => ?_⟩
    have eg : Ex G1 (upd G1 p (.tup xs.reverse)) := Ex.new (S1.free hp)
    exact q.d (S1.data hp _) (e1.trans eg) (DP.tup upd_same (dpAll_ex eg (dps_rev rv))) ⟨rfl, rfl⟩)
theorem ev_revL {ds : List D} {k : Nat} {p1 p2 p3 : Pos} (ha : EV X R e ss O (.dat (.list ds)) O1) : EV X R (.Subscript e (.Slice none none (some (.UnaryOp .USub (.Constant (.int 1) k p1) p2)) p3) pos) ss O (.dat (.list ds.reverse)) O1 := fun G0 H0 G H σ S L Q q =>
  wE_of (pe_revL peW) (ha G0 H0 G H σ S L _ fun G1 H1 v k1 O3 S1 e1 r1 ⟨h1, h2⟩ => by
    subst h1 h2
    obtain ⟨a, xs, rfl, g1, rv⟩ := dp_lst r1
    refine ⟨a, xs, rfl, .of (S1.gh _ _ g1), fun p hp => ?_⟩
    have eg : Ex G1 (upd G1 p (.lst xs.reverse)) := Ex.new (S1.free hp)
    exact q.d (S1.data hp _) (e1.trans eg) (DP.lst upd_same (dpAll_ex eg (dps_rev rv))) ⟨rfl, rfl⟩)
/-- a <= b <= c, the three pure -/
theorem ev_chainI {i j l : Int} (ha : EV X R a ss O (.dat (.int i)) O) (hb : EV X R b ss O (.dat (.int j)) O) (hc : EV X R c ss O (.dat (.int l)) O) (hm : lastMarks [.LtE, .LtE] [b, c] = false := by with_unfolding_all rfl) : EV X R (.Compare a [.LtE, .LtE] [b, c] pos) ss O (.dat (.bool (decide (i ≤ j) && decide (j ≤ l)))) O := fun G0 H0 G H σ S L Q q =>
  wE_of (pe_chain op_le op_le peW peW peW hm) (ha G0 H0 G H σ S L _ fun G1 H1 v k1 O1 S1 e1 r1 ⟨h1, h2⟩ => by
    subst h1 h2
    refine hb G0 H0 G1 H1 σ S1 L _ fun G2 H2 v2 k2 O2 S2 e2 r2 ⟨h3, h4⟩ => ?_
    subst h3 h4
    refine ⟨i, j, dp_int (dp_ex e2 r1), dp_int r2, _, rfl, ?_⟩
    cases hij : decide (i ≤ j) with
    | true =>
      rw [if_pos rfl]
      refine hc G0 H0 G2 H2 σ S2 L _ fun G3 H3 v3 k3 O3 S3 e3 r3 ⟨h5, h6⟩ => ?_
      subst h5 h6
      exact ⟨j, l, dp_int (dp_ex e3 r2), dp_int r3, q.d S3 ((e1.trans e2).trans e3) (DP.bl _) ⟨by rw [hij, Bool.true_and], rfl⟩⟩
    | false =>
      rw [if_neg Bool.false_ne_true]
      exact q.d S2 (e1.trans e2) (DP.bl _) ⟨by rw [hij, Bool.false_and], rfl⟩)
theorem ev_chainS {i j l : List Nat} (ha : EV X R a ss O (.dat (dS i)) O) (hb : EV X R b ss O (.dat (dS j)) O) (hc : EV X R c ss O (.dat (dS l)) O) (hm : lastMarks [.LtE, .LtE] [b, c] = false := by with_unfolding_all rfl) : EV X R (.Compare a [.LtE, .LtE] [b, c] pos) ss O (.dat (.bool (!decide (j < i) && !decide (l < j)))) O := fun G0 H0 G H σ S L Q q =>
  wE_of (pe_chain op_le_str op_le_str peW peW peW hm) (ha G0 H0 G H σ S L _ fun G1 H1 v k1 O1 S1 e1 r1 ⟨h1, h2⟩ => by
    subst h1 h2
    refine hb G0 H0 G1 H1 σ S1 L _ fun G2 H2 v2 k2 O2 S2 e2 r2 ⟨h3, h4⟩ => ?_
    subst h3 h4
    refine ⟨sL i, sL j, dp_str (dp_ex e2 r1), dp_str r2, _, rfl, ?_⟩
    have e5 : (!decide ((sL j).cps.toList < (sL i).cps.toList)) = !decide (j < i) := by simp
    rw [e5]
    cases hij : (!decide (j < i)) with
    | true =>
      rw [if_pos rfl]
      refine hc G0 H0 G2 H2 σ S2 L _ fun G3 H3 v3 k3 O3 S3 e3 r3 ⟨h5, h6⟩ => ?_
      subst h5 h6
      exact ⟨sL j, sL l, dp_str (dp_ex e3 r2), dp_str r3, q.d S3 ((e1.trans e2).trans e3) (DP.bl _) ⟨by rw [hij, Bool.true_and], rfl⟩⟩
    | false =>
      rw [if_neg Bool.false_ne_true]
      exact q.d S2 (e1.trans e2) (DP.bl _) ⟨by rw [hij, Bool.false_and], rfl⟩)

/-! ### owned lists -/
theorem sta_olput {G0 H0 G H : Hp} {σ : L2.St} {j : Nat} {p : Addr} {ds ds' : List D} {vs : List V} (S : Sta G0 H0 G H σ ss O) (hj : O[j]? = some (p, .ol ds)) (r : DPs G vs ds') : Sta G0 H0 G (upd H p (.lst vs)) σ ss (O.set j (p, .ol ds')) := S.put hj ⟨vs, upd_same, r⟩
/-- xs.append(e) -/
theorem ev_append (j : Nat) {p : Addr} {ds : List D} {d : D} {apos : Pos} {f : Expr} (ha : EV X R a ss O (.val (.ref p)) O1) (hf : EV X R f ss O1 (.dat d) O2) (hj1 : O1[j]? = some (p, .ol ds)) (hj : O2[j]? = some (p, .ol ds)) (hl : ds.length < 16777216)
    (hbase : attributeBase a "append" X.env (eval a X.env) = eval a X.env := by rfl)
    (hfew : ((backTo pos (starEach [f] X.env)).all (fun x => !x.1) && (backToKw pos (keywordEach [] X.env)).all (fun x => x.1.isSome) && decide ([f].length + ([] : List Keyword).length + (if ([] : List Keyword).isEmpty then 0 else 1) < 30)) = true := by rfl)
    (hline : (apos.endLine == pos.line) = true := by rfl) (hs : starEach [f] X.env = (false, eval f X.env) :: starEach [] X.env := by exact star_ne rfl) : EV X R (.Call (.Attribute a "append" apos) [f] [] pos) ss O (.dat .none) (O2.set j (p, .ol (ds ++ [d]))) := fun G0 H0 G H σ S L Q q =>
  wE_of (pe_bm PySem.F.plainAttrs_list PySem.F.slot_list_append PySem.F.type_list_append mt_append peW (pa_cons peW pa_nil hs) hbase hfew hline hs) (ha G0 H0 G H σ S L _ fun G1 H1 v k1 O3 S1 e1 r1 ⟨h1, h2⟩ => by
    subst h1 h2
    have : v = .ref p := r1
    subst this
    obtain ⟨⟨vs, hv, rv⟩, _, _⟩ := S1.ob _ (List.mem_of_getElem? hj1)
    refine ⟨.inl ⟨rfl, vs, .of hv⟩, ?_⟩
    refine hf G0 H0 G1 H1 σ S1 L _ fun G2 H2 v2 k2 O4 S2 e2 r2 ⟨h3, h4⟩ => ?_
    subst h3 h4
    obtain ⟨⟨vs, hv, rv⟩, _, _⟩ := S2.ob _ (List.mem_of_getElem? hj)
    exact ⟨p, vs, v2, rfl, rfl, hv, by rw [dps_len rv, sizeLine_eq]; exact hl, q.d (sta_olput S2 hj (dpAll_app rv (.cons r2 .nil))) (e1.trans e2) DP.non ⟨rfl, rfl⟩⟩)
/-- xs[i] = e -/
theorem s1_setIx (j : Nat) {p : Addr} {ds : List D} {i : Int} {n : Nat} {d : D} {ppos : Pos} {f : Expr} {D' : DE} (hv : EV X R e ss O (.dat d) O1) (ha : EV X R a ss O1 (.val (.ref p)) O2) (hi : EV X R f ss O2 (.dat (.int i)) O3) (hj : O3[j]? = some (p, .ol ds)) (hx : ixN ds.length i = some n) (h : D'.nx ss (O3.set j (p, .ol (ds.set n d))))
    (hs : swapsWithSole [.Subscript a f ppos] e pos.line X.env = pure false := by rfl) (hw : swappedStores [.Subscript a f ppos] e X.env = pure none := by rfl) (h1 : (assignEach [.Subscript a f ppos] X.env).map (·.2) = [assign (.Subscript a f ppos) X.env] := by rfl)
    (hg : ∀ v, assign (.Subscript a f ppos) X.env v = (do
      let ov ← holding [v] (eval a X.env)
      let iv ← holding [v, ov] (eval f X.env)
      standAt ppos
      holding [v, ov, iv] (setItem ov iv v)
      release [v, ov, iv] []) := by intro _; rfl) : S1 X R (.Assign [.Subscript a f ppos] e pos) ss O D' := fun G0 H0 G H σ S L E s =>
  wS_of (ps_asg peW (pg_sub peW peW L2.set_list hg) hs hw h1) (hv G0 H0 G H σ S L _ fun G1 H1 v k1 O4 S1 e1 r1 ⟨h1, h2⟩ => by
    subst h1 h2
    refine ha G0 H0 G1 H1 σ S1 L _ fun G2 H2 v2 k2 O5 S2 e2 r2 ⟨h3, h4⟩ => ?_
    subst h3 h4
    refine hi G0 H0 G2 H2 σ S2 L _ fun G3 H3 v3 k3 O6 S3 e3 r3 ⟨h5, h6⟩ => ?_
    subst h5 h6
    have : v2 = .ref p := r2
    subst this
    obtain ⟨⟨vs, hv, rv⟩, _, _⟩ := S3.ob _ (List.mem_of_getElem? hj)
    refine ⟨p, vs, i, n, rfl, dp_int r3, hv, by rw [dps_len rv]; exact hx, ?_⟩
    refine s.nx G3 _ σ ss _ (sta_olput S3 hj ?_) ((e1.trans e2).trans e3) h
    exact dpAll_of (paired_set (dp_ex (e2.trans e3) r1) n (dpAll_to rv)))
end
end Dl
/-! sorted lists of texts -/
namespace Dl
open PySem PySem.Spec PyProof.Rows L2
open Evl (Ex)

theorem perm_uniq {α : Type} {le : α → α → Prop} (anti : ∀ a b, le a b → le b a → a = b) : ∀ {l1 l2 : List α}, l1.Perm l2 → l1.Pairwise le → l2.Pairwise le → l1 = l2
  | [], l2, p, _, _ => (List.nil_perm.mp p).symm
  | a :: l1, [], p, _, _ => absurd p.length_eq (by simp)
  | a :: l1, b :: l2, p, h1, h2 => by
    have e : a = b := by
      have ha : a ∈ b :: l2 := p.mem_iff.mp List.mem_cons_self
      have hb : b ∈ a :: l1 := p.mem_iff.mpr List.mem_cons_self
      rcases List.mem_cons.mp ha with e | ha
      · exact e
      · rcases List.mem_cons.mp hb with e | hb
        · exact e.symm
        · exact anti a b ((List.pairwise_cons.mp h1).1 b hb) ((List.pairwise_cons.mp h2).1 a ha)
    subst e
    rw [perm_uniq anti ((List.perm_cons a).mp p) (List.pairwise_cons.mp h1).2 (List.pairwise_cons.mp h2).2]
abbrev Tx := List Nat
theorem tx_anti (a b : Tx) (h1 : ¬ b < a) (h2 : ¬ a < b) : a = b := List.le_antisymm h1 h2
theorem tx_trans {a b c : Tx} (h1 : ¬ b < a) (h2 : ¬ c < b) : ¬ c < a := List.le_trans (l₁ := a) (l₂ := b) (l₃ := c) h1 h2
theorem tx_total (a b : Tx) : ¬ b < a ∨ ¬ a < b := List.le_total a b
theorem tx_irr (a : Tx) : ¬ a < a := List.lt_irrefl a
theorem tx_lt {a b c : Tx} (h1 : a < b) (h2 : b < c) : a < c := List.lt_trans h1 h2
/-- texts in order -/
def srtT (xs : List Tx) : List Tx := xs.mergeSort fun a b => !decide (b < a)
theorem srtT_perm (xs : List Tx) : (srtT xs).Perm xs := List.mergeSort_perm xs _
theorem srtT_sorted (xs : List Tx) : (srtT xs).Pairwise fun a b => ¬ b < a := by
  have h := List.pairwise_mergeSort (le := fun a b : Tx => !decide (b < a)) (fun a b c h1 h2 => by
    simp only [Bool.not_eq_true', decide_eq_false_iff_not] at *
    exact tx_trans h1 h2) (fun a b => by
    simp only [Bool.or_eq_true, Bool.not_eq_true', decide_eq_false_iff_not]
    exact tx_total a b) xs
  exact h.imp fun h => by simpa using h
/-- distinct texts in order -/
def insT (x : Tx) : List Tx → List Tx
  | [] => [x]
  | y :: r => if x < y then x :: y :: r else if y < x then y :: insT x r else y :: r
def setT (xs : List Tx) : List Tx := xs.foldr insT []
theorem insT_mem (x z : Tx) : ∀ l, z ∈ insT x l ↔ z = x ∨ z ∈ l
  | [] => by simp [insT]
  | y :: r => by
    unfold insT
    split
    · simp
    · split
      · rw [List.mem_cons, insT_mem x z r, List.mem_cons]
        constructor <;> (rintro (h | h | h) <;> simp [h])
      · have : x = y := tx_anti x y ‹_› ‹_›
        subst this
        simp
theorem insT_sorted (x : Tx) : ∀ l, l.Pairwise (· < ·) → (insT x l).Pairwise (· < ·)
  | [], _ => by simp [insT]
  | y :: r, h => by
    obtain ⟨h1, h2⟩ := List.pairwise_cons.mp h
    unfold insT
    split
    · refine List.pairwise_cons.mpr ⟨fun z hz => ?_, h⟩
      rcases List.mem_cons.mp hz with rfl | hz
      · assumption
      · exact tx_lt ‹_› (h1 z hz)
    · split
      · refine List.pairwise_cons.mpr ⟨fun z hz => ?_, insT_sorted x r h2⟩
        rcases (insT_mem x z r).mp hz with rfl | hz
        · assumption
        · exact h1 z hz
      · exact h
theorem setT_mem (xs : List Tx) (z : Tx) : z ∈ setT xs ↔ z ∈ xs := by
  induction xs with
  | nil => simp [setT]
  | cons x xs ih =>
    show z ∈ insT x (setT xs) ↔ _
    rw [insT_mem, ih, List.mem_cons]
theorem setT_sorted (xs : List Tx) : (setT xs).Pairwise (· < ·) := by
  induction xs with
  | nil => exact .nil
  | cons x xs ih => exact insT_sorted x _ ih
theorem insT_len (x : Tx) : ∀ l, (insT x l).length ≤ l.length + 1
  | [] => by simp [insT]
  | y :: r => by
    unfold insT
    split
    · simp
    · split
      · have := insT_len x r
        simp only [List.length_cons]
        omega
      · simp
theorem setT_len (xs : List Tx) : (setT xs).length ≤ xs.length := by
  induction xs with
  | nil => simp [setT]
  | cons x xs ih =>
    have := insT_len x (setT xs)
    show (insT x (setT xs)).length ≤ _
    rw [List.length_cons]
    omega
/-- strictly rising lists with the same members -/
theorem lt_uniq : ∀ {l1 l2 : List Tx}, l1.Pairwise (· < ·) → l2.Pairwise (· < ·) → (∀ z, z ∈ l1 ↔ z ∈ l2) → l1 = l2
  | [], [], _, _, _ => rfl
  | [], b :: l2, _, _, h => absurd ((h b).mpr List.mem_cons_self) (by simp)
  | a :: l1, [], _, _, h => absurd ((h a).mp List.mem_cons_self) (by simp)
  | a :: l1, b :: l2, h1, h2, h => by
    obtain ⟨p1, q1⟩ := List.pairwise_cons.mp h1
    obtain ⟨p2, q2⟩ := List.pairwise_cons.mp h2
    have e : a = b := by
      rcases List.mem_cons.mp ((h a).mp List.mem_cons_self) with e | ha
      · exact e
      · rcases List.mem_cons.mp ((h b).mpr List.mem_cons_self) with e | hb
        · exact e.symm
        · exact absurd (tx_lt (p1 b hb) (p2 a ha)) (tx_irr a)
    subst e
    refine congrArg (a :: ·) (lt_uniq q1 q2 fun z => ?_)
    constructor
    · intro hz
      rcases List.mem_cons.mp ((h z).mp (List.mem_cons_of_mem _ hz)) with e | hz'
      · exact absurd (e ▸ p1 z hz) (tx_irr _)
      · exact hz'
    · intro hz
      rcases List.mem_cons.mp ((h z).mpr (List.mem_cons_of_mem _ hz)) with e | hz'
      · exact absurd (e ▸ p2 z hz) (tx_irr _)
      · exact hz'
/-! ### from sortedS -/
theorem rising_pw : ∀ (p : Str) (l : List Str), risingS p l = true → (p :: l).Pairwise fun a b => ¬ b.cps.toList < a.cps.toList
  | p, [], _ => by simp
  | p, x :: r, h => by
    have h : (!ltCps x.cps.toList p.cps.toList && risingS x r) = true := h
    rw [Bool.and_eq_true, Bool.not_eq_true', ltCps_eq, decide_eq_false_iff_not] at h
    have ih := rising_pw x r h.2
    refine List.pairwise_cons.mpr ⟨fun z hz => ?_, ih⟩
    rcases List.mem_cons.mp hz with rfl | hz
    · exact h.1
    · exact tx_trans h.1 ((List.pairwise_cons.mp ih).1 z hz)
theorem sortedS_pw {l : List Str} (h : sortedS l = true) : l.Pairwise fun a b => ¬ b.cps.toList < a.cps.toList := by
  cases l with
  | nil => exact .nil
  | cons x r => exact rising_pw x r h
theorem strs_back (ys : List Str) : ys = (ys.map fun y => y.cps.toList).map sL := by
  rw [List.map_map]
  exact (List.map_id ys).symm.trans (List.map_congr_left fun y _ => by cases y; simp)
theorem sorted_is {ys : List Str} {xs : List Tx} (p : ys.Perm (xs.map sL)) (h : sortedS ys = true) : ys = (srtT xs).map sL := by
  have e : (ys.map fun y => y.cps.toList) = srtT xs := by
    refine perm_uniq (le := fun a b : Tx => ¬ b < a) tx_anti ?_ ?_ (srtT_sorted xs)
    · have q := p.map fun y => y.cps.toList
      rw [List.map_map] at q
      have : ((fun y : Str => y.cps.toList) ∘ sL) = id := by funext l; simp
      rw [this, List.map_id] at q
      exact q.trans (srtT_perm xs).symm
    · rw [List.pairwise_map]
      exact sortedS_pw h
  rw [← e]
  exact strs_back ys
theorem set_is {ys : List Str} {xs : List Tx} (h : sortedS ys = true) (nd : ys.Nodup) (hm : ∀ k, k ∈ ys ↔ decide (k ∈ xs.map sL) = true) : ys = (setT xs).map sL := by
  have e : (ys.map fun y => y.cps.toList) = setT xs := by
    refine lt_uniq ?_ (setT_sorted xs) fun z => ?_
    · rw [List.pairwise_map]
      have h1 := sortedS_pw h
      refine (h1.and nd).imp fun {a b} ⟨h1, h2⟩ => ?_
      rcases Classical.em (a.cps.toList < b.cps.toList) with c | c
      · exact c
      · exfalso
        have := tx_anti _ _ h1 c
        refine h2 ?_
        cases a; cases b
        simpa using this
    · rw [setT_mem]
      have e1 : z ∈ (ys.map fun y => y.cps.toList) ↔ sL z ∈ ys := by
        rw [List.mem_map]
        constructor
        · rintro ⟨y, hy, rfl⟩
          cases y
          simpa using hy
        · intro hy
          exact ⟨sL z, hy, by simp⟩
      rw [e1, hm, decide_eq_true_eq, List.mem_map]
      exact ⟨fun ⟨y, hy, e⟩ => by rw [← sL_inj e]; exact hy, fun hz => ⟨z, hz, rfl⟩⟩
  rw [← e]
  exact strs_back ys
section
variable {X : Cx} {R : Addr → Prop} {e a b c : Expr} {es : List Expr} {ss : List Kd} {O O1 O2 O3 O' : Store} {k ka kb : Kd} {ks : List Kd} {Φ Ψ : Kd → Store → Prop} {pos : Pos}
theorem strs_dps {G : Hp} : ∀ ys : List Str, DPs G (ys.map V.str) (ys.map PyData.str)
  | [] => .nil
  | y :: ys => .cons (.str y) (strs_dps ys)
/-- sorted(a text) -/
theorem en_sortS {l : List Nat} {x : Str} {p : Pos} (ha : EV X R e ss O (.dat (dS l)) O1) (hl : l.length ≤ 16777216) (hc : X.calm = true) (hm : X.mg "sorted" = none) (hx : x = "sorted" := by rfl) (hg : Gl X x := by rfl) (he : starEach [e] X.env = (false, eval e X.env) :: starEach [] X.env := by exact star_ne rfl) :
    EN X R (.Call (.Name x p) [e] [] pos) ss O (.ol ((srtT (l.map fun c => [c])).map dS)) O1 := by
  subst hx
  refine ej_b1 (call_sortedS1 hc) ha ?_ hm (by decide +kernel) hg (by decide) (by decide) he
  intro G0 H0 G H σ ss xs S h1 Q w
  obtain ⟨v, rfl, r⟩ := kinds1 h1
  refine ⟨sL l, by rw [dp_str r], by rw [List.size_toArray, sizeLine_eq]; exact hl, fun ys p pm hs hp => ?_⟩
  have e := sorted_is (xs := l.map fun c => [c]) (ys := ys) (by rw [List.map_map]; have pm2 := pm; rw [List.toList_toArray] at pm2; exact pm2) hs
  refine w.v (S.new hp (b := .ol ((srtT (l.map fun c => [c])).map dS)) ⟨ys.map V.str, upd_same, ?_⟩) (Ex.refl G) ⟨p, rfl, rfl⟩
  have := strs_dps (G := G) ys
  rw [e] at this ⊢
  rw [List.map_map (f := sL) (g := PyData.str)] at this
  exact this
/-- set(a list of texts), sorted -/
theorem en_sortSetL {ds : List D} {xs : List Tx} {x y : Str} {p p2 pos2 : Pos} (ha : EV X R e ss O (.dat (.list ds)) O1) (hd : ds = xs.map dS) (hl : xs.length ≤ 1000) (hc : X.calm = true) (hm : X.mg "sorted" = none) (hm2 : X.mg "set" = none) (hx : x = "sorted" := by rfl) (hy : y = "set" := by rfl) (hg : Gl X x := by rfl) (hg2 : Gl X y := by rfl)
    (he : starEach [e] X.env = (false, eval e X.env) :: starEach [] X.env := by exact star_ne rfl) (he2 : starEach [.Call (.Name y p2) [e] [] pos2] X.env = (false, eval (.Call (.Name y p2) [e] [] pos2) X.env) :: starEach [] X.env := by exact star_ne rfl) :
    EN X R (.Call (.Name x p) [.Call (.Name y p2) [e] [] pos2] [] pos) ss O (.ol ((setT xs).map dS)) O1 := by
  subst hx hy hd
  have h1 : EJ X R (.Call (.Name "set" p2) [e] [] pos2) ss O fun k O' => ∃ q c, k = .val (.ref q) ∧ O' = (q, .raw (TxO X.w q (fun j => decide (j ∈ xs.map sL)) c)) :: O1 := by
    refine ej_t1 (call_setL hc) ha ?_ hm2 boot_set hg2 (by decide) (by decide) he
    intro G0 H0 G H σ ss us S h1 Q w
    obtain ⟨v, rfl, r⟩ := kinds1 h1
    obtain ⟨a, vs, rfl, g1, rv⟩ := dp_lst r
    have ev := dps_strs (bs := xs.map sL) (by rw [List.map_map]; exact rv)
    subst ev
    refine ⟨a, xs.map sL, rfl, .of (S.gh _ _ g1), ?_, fun p c _ hp => ?_⟩
    · rw [List.length_map]
      exact Nat.lt_of_le_of_lt (Nat.succ_le_succ hl) (by decide)
    · exact w.v (S.new hp (b := .raw _) upd_same) (Ex.refl G) ⟨p, c, rfl, rfl⟩
  intro G0 H0 G H σ S L Q q
  refine wE_of (pe_callB (call_sortedTx hc) hg hm (by decide +kernel) (pa_cons peW pa_nil he2) (by decide) (by decide) he2 (by rfl)) (h1 G0 H0 G H σ S L _ fun G1 H1 v k O2 S1 e1 r1 ⟨p, c, h1, h2⟩ => ?_)
  subst h1 h2
  have : v = .ref p := r1
  subst this
  have hp : H1 p = some (TxO X.w p (fun j => decide (j ∈ xs.map sL)) c) := (S1.ob _ List.mem_cons_self).1
  refine ⟨p, _, c, rfl, hp, fun ys p2 hs nd hmm hlen hp2 => ?_⟩
  have e := set_is hs nd hmm
  have S2 := S1.less (O' := O1) (fun q hq => List.mem_cons_of_mem _ hq) (List.nodup_cons.mp S1.nd).2
  refine q.v (S2.new hp2 (b := .ol ((setT xs).map dS)) ⟨ys.map V.str, upd_same, ?_⟩) e1 ⟨p2, rfl, rfl⟩
  have := strs_dps (G := G1) ys
  rw [e] at this ⊢
  rw [List.map_map (f := sL) (g := PyData.str)] at this
  exact this
end
end Dl
/-! short words: statements in a row, defs of the text, calls between them -/
namespace Dl
open PySem PySem.Spec PyProof.Rows L2
open Evl (Ex)

section
variable {X : Cx} {R : Addr → Prop} {e a b c : Expr} {es : List Expr} {ss : List Kd} {O O1 O2 O3 O' : Store} {k ka kb : Kd} {ks : List Kd} {Φ Ψ : Kd → Store → Prop} {pos : Pos} {st : Stmt} {sts rest body : List Stmt} {D D' : DE}
theorem ev_v (i : Nat) {x : Str} {k : Kd} (hk : ss[i]? = some k := by rfl) (hu : k ≠ .und := by exact fun h => nomatch h) (hN : X.N[i]? = some x := by rfl) (hv : Vis X.env.scope x := by first | exact Or.inl rfl | exact Or.inr (Or.inl rfl) | exact Or.inr (Or.inr rfl)) (hd : (x == ("__debug__" : Str)) = false := by decide) (hcd : (x == ("__classdict__" : Str)) = false := by decide) : EV X R (.Name x pos) ss O k O := ev_var i hk hu hN hv hd hcd
theorem sj_set (i : Nat) {x : Str} {pos' : Pos} (he : EV X R e ss O k O') (h : SJ X R rest (ss.set i k) O' D) (hN : X.N.Nodup) (hi : X.N[i]? = some x := by rfl) (hx : Loc X.env.scope x := by first | exact Or.inl rfl | exact Or.inr rfl) (hs : swapsWith e (some (.Name x pos')) pos.line X.env = pure false := by rfl) (hf : X.fn x = true ∨ X.env.scope.names.lookup x = some .local := by first | exact .inl rfl | exact .inr rfl | assumption) :
    SJ X R (.Assign [.Name x pos'] e pos :: rest) ss O D := sj_cons (s1_set i he h hN hi hx hs hf)
theorem sj_setJ (i : Nat) {x : Str} {pos' : Pos} (he : EJ X R e ss O fun k O' => SJ X R rest (ss.set i k) O' D) (hN : X.N.Nodup) (hi : X.N[i]? = some x := by rfl) (hx : Loc X.env.scope x := by first | exact Or.inl rfl | exact Or.inr rfl) (hs : swapsWith e (some (.Name x pos')) pos.line X.env = pure false := by rfl) (hf : X.fn x = true ∨ X.env.scope.names.lookup x = some .local := by first | exact .inl rfl | exact .inr rfl | assumption) :
    SJ X R (.Assign [.Name x pos'] e pos :: rest) ss O D := sj_cons (s1_setJ i he hN hi hx hs hf)
theorem sj_setN (i : Nat) {x : Str} {pos' : Pos} {b : Ob} (he : EN X R e ss O b O') (h : ∀ p, SJ X R rest (ss.set i (.val (.ref p))) ((p, b) :: O') D) (hN : X.N.Nodup) (hi : X.N[i]? = some x := by rfl) (hx : Loc X.env.scope x := by first | exact Or.inl rfl | exact Or.inr rfl) (hs : swapsWith e (some (.Name x pos')) pos.line X.env = pure false := by rfl) (hf : X.fn x = true ∨ X.env.scope.names.lookup x = some .local := by first | exact .inl rfl | exact .inr rfl | assumption) :
    SJ X R (.Assign [.Name x pos'] e pos :: rest) ss O D := sj_cons (s1_setN i he h hN hi hx hs hf)
theorem sj_expr (he : EV X R e ss O k O') (h : SJ X R rest ss O' D) (hs : swapsWith e none pos.line X.env = pure false := by rfl) : SJ X R (.Expr e pos :: rest) ss O D := sj_cons (s1_expr (he.to h) hs)
theorem sj_ret (he : EV X R e ss O k O') (h : D.rt k O') : SJ X R [.Return (some e) pos] ss O D := sj_one (s1_ret (he.to h))
theorem sj_retJ (he : EJ X R e ss O D.rt) : SJ X R [.Return (some e) pos] ss O D := sj_one (s1_ret he)
theorem sj_if {b' : Bool} {body els : List Stmt} (hc : TV X R c ss O b' O1) (h1 : b' = true → SJ X R body ss O1 { D with nx := fun ss' O' => SJ X R rest ss' O' D }) (h2 : b' = false → SJ X R els ss O1 { D with nx := fun ss' O' => SJ X R rest ss' O' D }) : SJ X R (.If c body els pos :: rest) ss O D := sj_cons (s1_if hc h1 h2)
/-- an if without else whose body ends the def -/
theorem sj_ifR {b' : Bool} {body : List Stmt} (hc : TV X R c ss O b' O1) (h1 : b' = true → SJ X R body ss O1 { D with nx := fun ss' O' => SJ X R rest ss' O' D }) (h2 : b' = false → SJ X R rest ss O1 D) : SJ X R (.If c body [] pos :: rest) ss O D := sj_cons (s1_if hc h1 fun h => sj_nil (h2 h))
theorem sj_for {tg iter : Expr} {g : TG} {n : Nat} {item : Nat → Kd} {need : Store → Prop} {ix : List Nat} (Inv : Nat → List Kd → Store → Prop) (hi : IJ X R tg iter ss O n item need O') (hg : PG X tg g) (hp : PassesOwn (model X.prog X.w) X.A X.env X.xe) (hc : X.calm = true) (h0 : Inv 0 ss O') (hn : ∀ i ss O, Inv i ss O → need O)
    (hb : ∀ i ss1 O1, i < n → Inv i ss1 O1 → GJ g ix (item i) ss1 O1 fun ss2 O2 => SJ X R body ss2 O2 { D with nx := Inv (i + 1), ct := Inv (i + 1), bk := fun ss' O' => SJ X R rest ss' O' D }) (hd : ∀ ss1 O1, Inv n ss1 O1 → SJ X R rest ss1 O1 D)
    (hs : ∀ x, foldedSetIterable iter X.env x = pure x := by intro _; rfl) : SJ X R (.For tg iter body [] pos :: rest) ss O D := sj_cons (s1_for Inv hi hg hp hc h0 hn hb hd hs)
theorem sj_setIx (j : Nat) {p : Addr} {ds : List PyData} {i : Int} {n : Nat} {d : PyData} {ppos : Pos} {f : Expr} (hv : EV X R e ss O (.dat d) O1) (ha : EV X R a ss O1 (.val (.ref p)) O2) (hi : EV X R f ss O2 (.dat (.int i)) O3) (hj : O3[j]? = some (p, .ol ds)) (hx : ixN ds.length i = some n) (h : SJ X R rest ss (O3.set j (p, .ol (ds.set n d))) D)
    (hs : swapsWithSole [.Subscript a f ppos] e pos.line X.env = pure false := by rfl) (hw : swappedStores [.Subscript a f ppos] e X.env = pure none := by rfl) (h1 : (assignEach [.Subscript a f ppos] X.env).map (·.2) = [assign (.Subscript a f ppos) X.env] := by rfl)
    (hg : ∀ v, assign (.Subscript a f ppos) X.env v = (do
      let ov ← holding [v] (eval a X.env)
      let iv ← holding [v, ov] (eval f X.env)
      standAt ppos
      holding [v, ov, iv] (setItem ov iv v)
      release [v, ov, iv] []) := by intro _; rfl) : SJ X R (.Assign [.Subscript a f ppos] e pos :: rest) ss O D := sj_cons (s1_setIx j hv ha hi hj hx h hs hw h1 hg)
theorem sj_lc (i : Nat) {x : Str} {px spos : Pos} {elt tg iter : Expr} {ifs : List Expr} {scope : Scope} {Φ : Addr → Store → Prop} (h : LJ X R elt tg iter ifs scope ss O Φ) (hq : ∀ p O', Φ p O' → SJ X R rest (ss.set i (.val (.ref p))) O' D) (hN : X.N.Nodup) (hc : X.calm = true) (hi : X.N[i]? = some x) (hx : X.env.scope.names.lookup x = some .local)
    (hsw : swapsWith (.ListComp elt [⟨tg, iter, ifs, 0⟩] scope pos) (some (.Name x px)) spos.line X.env = pure true) (hs : ∀ x, foldedSetIterable iter X.env x = pure x := by intro _; rfl) : SJ X R (.Assign [.Name x px] (.ListComp elt [⟨tg, iter, ifs, 0⟩] scope pos) spos :: rest) ss O D := sj_cons (s1_lc i h hq hN hc hi hx hsw hs)
/-- a, b = e, f -/
theorem sj_par (i j : Nat) {x y : Str} {px py pt : Pos} {kt k2 : Nat} {pt2 : Pos} (ha : AJ X R [a, b] ss O fun ks O' => ∃ k1 k2, ks = [k1, k2] ∧ SJ X R rest ((ss.set i k1).set j k2) O' D) (hc : X.calm = true) (hN : X.N.Nodup) (hi : X.N[i]? = some x := by rfl) (hj : X.N[j]? = some y := by rfl) (hij : i ≠ j := by decide)
    (hx : X.env.scope.names.lookup x = some .local := by rfl) (hy : X.env.scope.names.lookup y = some .local := by rfl) (hw : swappedStores [.Tuple [.Name x px, .Name y py] kt pt] (.Tuple [a, b] k2 pt2) X.env = pure (some [x, y]) := by rfl)
    (hs : swapsWithSole [.Tuple [.Name x px, .Name y py] kt pt] (.Tuple [a, b] k2 pt2) pos.line X.env = pure false := by rfl) : SJ X R (.Assign [.Tuple [.Name x px, .Name y py] kt pt] (.Tuple [a, b] k2 pt2) pos :: rest) ss O D := sj_cons fun G0 H0 G H σ S L E s =>
  wS_of (ps_par hc hN hi hj hij hx hy paW hw hs) (ha G0 H0 G H σ S L _ fun G1 H1 vs ks O1 S1 e1 r1 ⟨k1, k2, e2, h⟩ => by
    subst e2
    obtain ⟨v, w, rfl, h1, h2⟩ := kinds2 r1
    exact ⟨v, w, rfl, s.nx G1 H1 _ _ O1 ((S1.set i h1).set j h2) e1 h⟩)
theorem tj_bool {Φ : Bool → Store → Prop} (h : EJ X R e ss O fun k O' => ∃ b, k = .dat (.bool b) ∧ Φ b O') (he : ∀ whole, isTrue e X.env whole = (do let v ← whole; standAt e.pos; holding [v] (truthy v)) := by intro _; rfl) : TJ X R e ss O Φ :=
  fun G0 H0 G H σ S L Q q => wT_of (pt_val peW he) (h G0 H0 G H σ S L _ fun G1 H1 v k O1 S1 e1 r1 ⟨b, h1, h2⟩ => by
    subst h1
    cases r1
    exact ⟨b, rfl, q G1 H1 b _ S1 e1 h2⟩)
/-- a test by its value -/
theorem tv_e {b' : Bool} (h : EV X R e ss O (.dat (.bool b')) O') (he : ∀ whole, isTrue e X.env whole = (do let v ← whole; standAt e.pos; holding [v] (truthy v)) := by intro _; rfl) : TV X R e ss O b' O' := tv_val h he
/-! comparisons as tests -/
theorem tv_lt {i j : Int} (ha : EV X R a ss O (.dat (.int i)) O1) (hb : EV X R b ss O1 (.dat (.int j)) O2) : TV X R (.Compare a [.Lt] [b] pos) ss O (decide (i < j)) O2 := tv_cmp op_lt ha hb (oj_B0 ⟨rfl, rfl⟩) (nomark _)
theorem tv_le {i j : Int} (ha : EV X R a ss O (.dat (.int i)) O1) (hb : EV X R b ss O1 (.dat (.int j)) O2) : TV X R (.Compare a [.LtE] [b] pos) ss O (decide (i ≤ j)) O2 := tv_cmp op_le ha hb (oj_B0 ⟨rfl, rfl⟩) (nomark _)
theorem tv_gt {i j : Int} (ha : EV X R a ss O (.dat (.int i)) O1) (hb : EV X R b ss O1 (.dat (.int j)) O2) : TV X R (.Compare a [.Gt] [b] pos) ss O (decide (j < i)) O2 := tv_cmp op_gt ha hb (oj_B0 ⟨rfl, rfl⟩) (nomark _)
theorem tv_ge {i j : Int} (ha : EV X R a ss O (.dat (.int i)) O1) (hb : EV X R b ss O1 (.dat (.int j)) O2) : TV X R (.Compare a [.GtE] [b] pos) ss O (decide (j ≤ i)) O2 := tv_cmp op_ge ha hb (oj_B0 ⟨rfl, rfl⟩) (nomark _)
theorem tv_eq {d1 d2 : PyData} {b' : Bool} {n : Nat} (hr : Room n X.A) (ha : EV X R a ss O (.dat d1) O1) (hb : EV X R b ss O1 (.dat d2) O2) (s1 : pl d1 = true) (s2 : pl d2 = true) (he : PyData.eqv d1 d2 = b') : TV X R (.Compare a [.Eq] [b] pos) ss O b' O2 :=
  tv_cmp (op_eqD hr.units) ha hb (oj_eq hr.units s1 s2 ⟨by rw [he], rfl⟩) (nomark _)
theorem tv_ne {d1 d2 : PyData} {b' : Bool} {n : Nat} (hr : Room n X.A) (ha : EV X R a ss O (.dat d1) O1) (hb : EV X R b ss O1 (.dat d2) O2) (s1 : pl d1 = true) (s2 : pl d2 = true) (he : (!PyData.eqv d1 d2) = b') : TV X R (.Compare a [.NotEq] [b] pos) ss O b' O2 :=
  tv_cmp (op_neD hr.units) ha hb (oj_ne hr.units s1 s2 ⟨by rw [he], rfl⟩) (nomark _)
/-- equality of scalars, of texts -/
theorem tv_eqI {i j : Int} {n : Nat} (hr : Room n X.A) (ha : EV X R a ss O (.dat (.int i)) O1) (hb : EV X R b ss O1 (.dat (.int j)) O2) : TV X R (.Compare a [.Eq] [b] pos) ss O (decide (i = j)) O2 :=
  tv_eq hr ha hb rfl rfl (by simp [PyData.eqv]; rfl)
theorem tv_neI {i j : Int} {n : Nat} (hr : Room n X.A) (ha : EV X R a ss O (.dat (.int i)) O1) (hb : EV X R b ss O1 (.dat (.int j)) O2) : TV X R (.Compare a [.NotEq] [b] pos) ss O (!decide (i = j)) O2 :=
  tv_ne hr ha hb rfl rfl (by simp [PyData.eqv]; rfl)
theorem ev_eqI {i j : Int} {n : Nat} (hr : Room n X.A) (ha : EV X R a ss O (.dat (.int i)) O1) (hb : EV X R b ss O1 (.dat (.int j)) O2) : EV X R (.Compare a [.Eq] [b] pos) ss O (.dat (.bool (decide (i = j)))) O2 :=
  ev_eq hr ha hb rfl rfl (by simp [PyData.eqv]; rfl)
theorem tv_isB {b1 b2 : Bool} (ha : EV X R a ss O (.dat (.bool b1)) O1) (hb : EV X R b ss O1 (.dat (.bool b2)) O2) (hm : behindInMarks .Is b = false := by rfl) : TV X R (.Compare a [.Is] [b] pos) ss O (decide (b1 = b2)) O2 :=
  tv_cmp op_is_bl ha hb (fun G0 H0 G H σ ss x y S h1 h2 Q q => ⟨b1, b2, dp_bl h1, dp_bl h2, q.d S (Ex.refl G) (DP.bl _) ⟨rfl, rfl⟩⟩) hm
theorem tv_isnB {b1 b2 : Bool} (ha : EV X R a ss O (.dat (.bool b1)) O1) (hb : EV X R b ss O1 (.dat (.bool b2)) O2) (hm : behindInMarks .IsNot b = false := by rfl) : TV X R (.Compare a [.IsNot] [b] pos) ss O (!decide (b1 = b2)) O2 :=
  tv_cmp op_isnot_bl ha hb (fun G0 H0 G H σ ss x y S h1 h2 Q q => ⟨b1, b2, dp_bl h1, dp_bl h2, q.d S (Ex.refl G) (DP.bl _) ⟨rfl, rfl⟩⟩) hm
theorem tv_chainI {i j l : Int} (ha : EV X R a ss O (.dat (.int i)) O) (hb : EV X R b ss O (.dat (.int j)) O) (hc : EV X R c ss O (.dat (.int l)) O) (hm : lastMarks [.LtE, .LtE] [b, c] = false := by with_unfolding_all rfl) : TV X R (.Compare a [.LtE, .LtE] [b, c] pos) ss O (decide (i ≤ j) && decide (j ≤ l)) O := fun G0 H0 G H σ S L Q q =>
  wT_of (pt_chain op_le op_le peW peW peW hm) (ha G0 H0 G H σ S L _ fun G1 H1 v k1 O1 S1 e1 r1 ⟨h1, h2⟩ => by
    subst h1 h2
    refine hb G0 H0 G1 H1 σ S1 L _ fun G2 H2 v2 k2 O2 S2 e2 r2 ⟨h3, h4⟩ => ?_
    subst h3 h4
    refine ⟨i, j, dp_int (dp_ex e2 r1), dp_int r2, _, rfl, ?_⟩
    cases hij : decide (i ≤ j) with
    | true =>
      rw [if_pos rfl]
      refine hc G0 H0 G2 H2 σ S2 L _ fun G3 H3 v3 k3 O3 S3 e3 r3 ⟨h5, h6⟩ => ?_
      subst h5 h6
      exact ⟨j, l, dp_int (dp_ex e3 r2), dp_int r3, _, rfl, q G3 H3 _ _ S3 ((e1.trans e2).trans e3) ⟨by rw [hij, Bool.true_and], rfl⟩⟩
    | false =>
      rw [if_neg Bool.false_ne_true]
      exact ⟨_, rfl, q G2 H2 _ _ S2 (e1.trans e2) ⟨by rw [hij, Bool.false_and], rfl⟩⟩)
theorem tv_chainS {i j l : List Nat} (ha : EV X R a ss O (.dat (dS i)) O) (hb : EV X R b ss O (.dat (dS j)) O) (hc : EV X R c ss O (.dat (dS l)) O) (hm : lastMarks [.LtE, .LtE] [b, c] = false := by with_unfolding_all rfl) : TV X R (.Compare a [.LtE, .LtE] [b, c] pos) ss O (!decide (j < i) && !decide (l < j)) O := fun G0 H0 G H σ S L Q q =>
  wT_of (pt_chain op_le_str op_le_str peW peW peW hm) (ha G0 H0 G H σ S L _ fun G1 H1 v k1 O1 S1 e1 r1 ⟨h1, h2⟩ => by
    subst h1 h2
    refine hb G0 H0 G1 H1 σ S1 L _ fun G2 H2 v2 k2 O2 S2 e2 r2 ⟨h3, h4⟩ => ?_
    subst h3 h4
    refine ⟨sL i, sL j, dp_str (dp_ex e2 r1), dp_str r2, _, rfl, ?_⟩
    have e5 : (!decide ((sL j).cps.toList < (sL i).cps.toList)) = !decide (j < i) := by simp
    rw [e5]
    cases hij : (!decide (j < i)) with
    | true =>
      rw [if_pos rfl]
      refine hc G0 H0 G2 H2 σ S2 L _ fun G3 H3 v3 k3 O3 S3 e3 r3 ⟨h5, h6⟩ => ?_
      subst h5 h6
      exact ⟨sL j, sL l, dp_str (dp_ex e3 r2), dp_str r3, _, rfl, q G3 H3 _ _ S3 ((e1.trans e2).trans e3) ⟨by rw [hij, Bool.true_and], rfl⟩⟩
    | false =>
      rw [if_neg Bool.false_ne_true]
      exact ⟨_, rfl, q G2 H2 _ _ S2 (e1.trans e2) ⟨by rw [hij, Bool.false_and], rfl⟩⟩)

/-! the script: a list that is read only -/
abbrev Scr (o : Obj) (ns : List Int) : Ob := .raw (.frz o (.lst (ns.map V.int)))
/-- a list that the module's own part holds -/
def KL (K : PySem.W.Frag) (a : Addr) (ns : List Int) : Prop := ∃ (o : Obj) (its : Array Value) (n : Nat), K.lookup a = some o ∧ o.cls = .type "list" ∧ o.dict = none ∧ o.data = .seq its n ∧ its.size ≤ sizeLine ∧ Vals (ns.map V.int) its.toList
/-- what a store holds of the script -/
def ScB (K : PySem.W.Frag) (a : Addr) (ns : List Int) (B : Store) : Prop := (∃ o, B = [(a, Scr o ns)]) ∨ (B = [] ∧ KL K a ns)
theorem ScB.sq {K : PySem.W.Frag} {q : Addr} {ns : List Int} {B : Store} (h : ScB K q ns B) {G0 H0 G H : Hp} {σ : L2.St} (S : Sta G0 H0 G H σ ss B) : SqL K H q (ns.map V.int) := by
  rcases h with ⟨o, rfl⟩ | ⟨_, h⟩
  · have hv : H q = some (.frz o (.lst (ns.map V.int))) := (S.ob _ List.mem_cons_self).1
    exact .inl (.inr ⟨o, hv⟩)
  · exact .inr h
theorem ev_lenR {x : Str} {p : Pos} {q : Addr} {ns : List Int} (ha : EV X R e ss O (.val (.ref q)) O1) (hq : ScB X.K q ns O1) (hm : X.mg "len" = none) (hx : x = "len" := by rfl) (hg : Gl X x := by rfl) (he : starEach [e] X.env = (false, eval e X.env) :: starEach [] X.env := by exact star_ne rfl) : EV X R (.Call (.Name x p) [e] [] pos) ss O (.dat (.int ns.length)) O1 := by
  subst hx
  refine ej_b1 call_len_seq ha ?_ hm PySem.boot_len hg (by decide) (by decide) he
  intro G0 H0 G H σ ss us S h1 Q w
  obtain ⟨v, rfl, r⟩ := kinds1 h1
  have : v = .ref q := r
  subst this
  refine ⟨q, ns.map V.int, rfl, .inl (hq.sq S), ?_⟩
  rw [List.length_map]
  exact w.d S (Ex.refl G) (DP.int _) ⟨rfl, rfl⟩
theorem ev_ixR {q : Addr} {ns : List Int} {i d : Int} (ha : EV X R a ss O (.val (.ref q)) O1) (hb : EV X R b ss O1 (.dat (.int i)) O2) (hq : ScB X.K q ns O2) (h : atI ns i = some d) (hs : PlainIx b := by exact fun _ _ => rfl) : EV X R (.Subscript a b pos) ss O (.dat (.int d)) O2 :=
  ej_ix ix_list ha hb (fun G0 H0 G H σ ss x y S h1 h2 Q w => by
    have : x = .ref q := h1
    subst this
    refine ⟨q, ns.map V.int, i, .int d, rfl, dp_int h2, hq.sq S, ?_, w.d S (Ex.refl G) (DP.int _) ⟨rfl, rfl⟩⟩
    unfold atI at h ⊢
    rw [List.length_map]
    cases e : ixN ns.length i with
    | none => rw [e] at h; cases h
    | some j =>
      rw [e] at h
      show (ns.map V.int)[j]? = _
      rw [List.getElem?_map, show ns[j]? = some d from h]
      rfl) hs
end

/-! ### defs of the text -/
structure Dfn (K : PySem.W.Frag) (mg : Str → Option Value) (x : Str) (st : Stmt) : Prop where
  ex : ∃ f fd, FunD K x x (defArgs st) (defBody st) (defScope st) [] [] f fd ∧ mg x = some (.ref f)
structure Cal (P : Program) (w : World) (K : PySem.W.Frag) (mg : Str → Option Value) (base : Heap) (x : Str) (n : Nat) (ps : List Str) (T : DSp) : Prop where
  ex : ∃ f fd, mg x = some (.ref f) ∧ PySem.W.keepIn K (.ref f) = true ∧ Binds K fd ps [] ∧ FD P w K mg base n f fd ps T
structure Bn (mg : Str → Option Value) : Prop where
  len : mg "len" = none
  range : mg "range" = none
  isi : mg "isinstance" = none
  all : mg "all" = none
  str : mg "str" = none
  tuple : mg "tuple" = none
  list : mg "list" = none
  int : mg "int" = none
  bool : mg "bool" = none
  repr : mg "repr" = none
  sorted : mg "sorted" = none
  set : mg "set" = none
  min : mg "min" = none
  max : mg "max" = none
  sum : mg "sum" = none
  zip : mg "zip" = none
  dict : mg "dict" = none
section
variable {P : Program} {w : World} {K : PySem.W.Frag} {mg : Str → Option Value} {base : Heap}
theorem fd_okD {x : Str} {st : Stmt} {f : Addr} {fd : FuncData} {N ps : List Str} {n : Nat} {T : DSp} (F : FunD K x x (defArgs st) (defBody st) (defScope st) [] [] f fd) (S : FnScope N ps (defScope st)) (len : ∀ ks B k R, T ks B k R → ks.length = ps.length)
    (hbody : ∀ (cdv : Value) (A : Around) (outer : List Env) (s : Shared) (H : Hp) (E : XK) (ks : List Kd) (B : Store) (k : Kd → Store → Prop) (R : Addr → Prop), Room n (A.deeper (envOfC x (defScope st) s.heap.objs.size f cdv)) → T ks B k R →
      SJ (cxOf (L2.CX P w) P w K mg base N x (defScope st) f cdv A outer s H E) R (defBody st) (startK N ks) B { nx := fun _ O' => fin k (.dat .none) O', rt := fin k }) :
    FD P w K mg base (n + 1) f fd ps T := by
  refine F.ok S (fun vs H Q E h => ?_) (fun cdv A outer s H vs Q E hr h => ⟨wSs _ _, pssW, ?_⟩)
  · obtain ⟨G, ks, B, k, R, hk, _, _, _, hT, _⟩ := h
    exact (paired_len hk).trans (len _ _ _ _ hT)
  · obtain ⟨G, ks, B, k, R, hk, hg, hn, hb, hT, hq, hE⟩ := h
    have hS := hbody cdv A outer s H E ks B k R hr hT
    have ok : Sta G (mask H B) G H (L2.start N vs) (startK N ks) B := by
      refine ⟨Ex.refl G, mask_le, hg, fun a o e => .inl e, ?_, hn, fun q hq => ⟨(hb q hq).1, (hb q hq).2, mask_in (List.mem_map_of_mem hq)⟩⟩
      unfold L2.start startK
      rw [paired_len hk]
      exact paired_app (slots_start hk) (slots_und _)
    have tk : Takes (cxOf (L2.CX P w) P w K mg base N x (defScope st) f cdv A outer s H E) (fun cls d _ H' => E cls d H') := takes_of rfl rfl rfl rfl
    refine hS G (mask H B) G H _ ok (fun C hC σ H' e => wX_of tk (hE C hC H' e)) _ ⟨fun G' H' σ' ss' O' S' e' p => ?_, fun G' H' σ' ss' v k' O' S' e' r p => ?_, fun _ _ _ _ _ _ _ p => p.elim, fun _ _ _ _ _ _ _ p => p.elim⟩
    · obtain ⟨O'', h1, h2, h3⟩ := p
      exact hq G' H' .non (.dat .none) O'' ((S'.less h1 (h2 S'.nd)).slots .nil) DP.non h3
    · obtain ⟨O'', h1, h2, h3⟩ := p
      exact hq G' H' v k' O'' ((S'.less h1 (h2 S'.nd)).slots .nil) r h3
theorem cal_of {x : Str} {st : Stmt} {N ps : List Str} {n : Nat} {T : DSp} (Df : Dfn K mg x st) (S : FnScope N ps (defScope st))
    (hb : ∀ (kV doc pm : Value) (an : Option Addr) (cdv ct : Value) (us : List Value), us.length = ps.length → bindArgs (PySem.W.fnOf x x (defArgs st) (defBody st) (defScope st) .none kV doc pm an cdv ct) ⟨us, []⟩ = pure (ps.zip us)) (len : ∀ ks B k R, T ks B k R → ks.length = ps.length)
    (hbody : ∀ (f : Addr) (cdv : Value) (A : Around) (outer : List Env) (s : Shared) (H : Hp) (E : XK) (ks : List Kd) (B : Store) (k : Kd → Store → Prop) (R : Addr → Prop), Room n (A.deeper (envOfC x (defScope st) s.heap.objs.size f cdv)) → T ks B k R →
      SJ (cxOf (L2.CX P w) P w K mg base N x (defScope st) f cdv A outer s H E) R (defBody st) (startK N ks) B { nx := fun _ O' => fin k (.dat .none) O', rt := fin k }) : Cal P w K mg base x (n + 1) ps T := by
  obtain ⟨f, fd, F, g⟩ := Df.ex
  exact ⟨f, fd, g, F.kp, F.bindsN hb, fd_okD F S len (hbody f)⟩
theorem Cal.up {x : Str} {n m : Nat} {ps : List Str} {T : DSp} (C : Cal P w K mg base x n ps T) (h : n ≤ m) : Cal P w K mg base x m ps T := by
  obtain ⟨f, fd, a, b, c, d⟩ := C.ex
  exact ⟨f, fd, a, b, c, d.mono h⟩
end
section
variable {X : Cx} {R : Addr → Prop} {e : Expr} {es : List Expr} {ss : List Kd} {O O1 O' : Store} {k : Kd} {ks : List Kd} {Φ : Kd → Store → Prop} {pos : Pos}
/-- f(e, ..): nothing lent -/
theorem ej_cal {n m : Nat} {ps : List Str} {T : DSp} {x : Str} {p : Pos} (C : Cal X.prog X.w X.K X.mg X.base x n ps T) (hr : Room m X.A) (hl : n ≤ m) (ha : AV X R (e :: es) ss O ks O1) (hT : T ks [] (fun r B' => Φ r (B' ++ O1)) R) (hg : Gl X x := by rfl)
    (hdb : (x == ("__debug__" : Str)) = false := by decide) (he : starEach (e :: es) X.env = (false, eval e X.env) :: starEach es X.env := by exact star_ne rfl) (hpl : (backTo pos (starEach es X.env)).any (·.1) = false := by rfl) : EJ X R (.Call (.Name x p) (e :: es) [] pos) ss O Φ := by
  obtain ⟨f, fd, a, b, c, d⟩ := C.ex
  exact ev_call d (hr.mono hl) hg a b c ha hT hdb he hpl
theorem ev_cal {n m : Nat} {ps : List Str} {T : DSp} {x : Str} {p : Pos} (C : Cal X.prog X.w X.K X.mg X.base x n ps T) (hr : Room m X.A) (hl : n ≤ m) (ha : AV X R (e :: es) ss O ks O1) (hT : T ks [] (fun r B' => isK k O1 r (B' ++ O1)) R) (hg : Gl X x := by rfl)
    (hdb : (x == ("__debug__" : Str)) = false := by decide) (he : starEach (e :: es) X.env = (false, eval e X.env) :: starEach es X.env := by exact star_ne rfl) (hpl : (backTo pos (starEach es X.env)).any (·.1) = false := by rfl) : EV X R (.Call (.Name x p) (e :: es) [] pos) ss O k O1 := ej_cal C hr hl ha hT hg hdb he hpl
/-- .. the object at place j lent -/
theorem ej_calO (j : Nat) {n m : Nat} {ps : List Str} {T : DSp} {x : Str} {p : Pos} {q : Addr × Ob} (C : Cal X.prog X.w X.K X.mg X.base x n ps T) (hr : Room m X.A) (hl : n ≤ m) (ha : AV X R (e :: es) ss O ks O1) (hj : O1[j]? = some q) (hT : T ks [q] (fun r B' => Φ r (B' ++ O1.eraseIdx j)) R) (hg : Gl X x := by rfl)
    (hdb : (x == ("__debug__" : Str)) = false := by decide) (he : starEach (e :: es) X.env = (false, eval e X.env) :: starEach es X.env := by exact star_ne rfl) (hpl : (backTo pos (starEach es X.env)).any (·.1) = false := by rfl) : EJ X R (.Call (.Name x p) (e :: es) [] pos) ss O Φ := by
  obtain ⟨f, fd, a, b, c, d⟩ := C.ex
  exact ev_callO j d (hr.mono hl) hg a b c ha hj hT hdb he hpl
end
end Dl
/-! loops and comprehensions over plain names -/
namespace Dl
open PySem PySem.Spec PyProof.Rows L2
open Evl (Ex)
section
variable {X : Cx} {R : Addr → Prop} {e a b c elt iter : Expr} {es ifs : List Expr} {ss : List Kd} {O O1 O2 O3 O' : Store} {k ka kb : Kd} {ks : List Kd} {Φ Ψ : Kd → Store → Prop} {pos px : Pos} {st : Stmt} {sts rest body : List Stmt} {D D' : DE} {n : Nat} {item : Nat → Kd} {need : Store → Prop} {x y : Str} {scope : Scope}
theorem sj_for1 (v : Nat) (Inv : Nat → List Kd → Store → Prop) (hN : X.N.Nodup) (hi : IJ X R (.Name x px) iter ss O n item need O') (h0 : Inv 0 ss O') (hn : ∀ i ss O, Inv i ss O → need O)
    (hb : ∀ i ss1 O1, i < n → Inv i ss1 O1 → SJ X R body (ss1.set v (item i)) O1 { D with nx := Inv (i + 1), ct := Inv (i + 1), bk := fun ss' O' => SJ X R rest ss' O' D }) (hd : ∀ ss1 O1, Inv n ss1 O1 → SJ X R rest ss1 O1 D)
    (hx : X.N[v]? = some x := by rfl) (hl : Loc X.env.scope x := by first | exact Or.inl rfl | exact Or.inr rfl) (hfx : X.fn x = true ∨ X.env.scope.names.lookup x = some .local := by first | exact .inl rfl | exact .inr rfl) (hp : PassesOwn (model X.prog X.w) X.A X.env X.xe := by exact passes_of rfl) (hc : X.calm = true := by rfl)
    (hs : ∀ x, foldedSetIterable iter X.env x = pure x := by intro _; rfl) : SJ X R (.For (.Name x px) iter body [] pos :: rest) ss O D :=
  sj_for (ix := [v]) Inv hi (pg_name (i := v) hN hx hl (hf := hfx)) hp hc h0 hn (fun i ss1 O1 hi iv => gj_name v (hb i ss1 O1 hi iv)) hd hs
theorem sj_for2 (v u : Nat) {d1 d2 : Nat → PyData} {py pt : Pos} {kt : Nat} (Inv : Nat → List Kd → Store → Prop) (hN : X.N.Nodup) (hi : IJ X R (.Tuple [.Name x px, .Name y py] kt pt) iter ss O n item need O') (ht : ∀ i, i < n → item i = .dat (.tuple [d1 i, d2 i])) (h0 : Inv 0 ss O') (hn : ∀ i ss O, Inv i ss O → need O)
    (hb : ∀ i ss1 O1, i < n → Inv i ss1 O1 → SJ X R body ((ss1.set v (.dat (d1 i))).set u (.dat (d2 i))) O1 { D with nx := Inv (i + 1), ct := Inv (i + 1), bk := fun ss' O' => SJ X R rest ss' O' D }) (hd : ∀ ss1 O1, Inv n ss1 O1 → SJ X R rest ss1 O1 D)
    (hx : X.N[v]? = some x := by rfl) (hl : Loc X.env.scope x := by first | exact Or.inl rfl | exact Or.inr rfl) (hfx : X.fn x = true ∨ X.env.scope.names.lookup x = some .local := by first | exact .inl rfl | exact .inr rfl) (hy : X.N[u]? = some y := by rfl) (hly : Loc X.env.scope y := by first | exact Or.inl rfl | exact Or.inr rfl) (hfy : X.fn y = true ∨ X.env.scope.names.lookup y = some .local := by first | exact .inl rfl | exact .inr rfl) (hp : PassesOwn (model X.prog X.w) X.A X.env X.xe := by exact passes_of rfl) (hc : X.calm = true := by rfl)
    (hw : (assignEach [.Name x px, .Name y py] X.env).length = 2 := by rfl) (hst : (assignEach [.Name x px, .Name y py] X.env).findIdx? (·.1) = none := by rfl)
    (hs : ∀ x, foldedSetIterable iter X.env x = pure x := by intro _; rfl) : SJ X R (.For (.Tuple [.Name x px, .Name y py] kt pt) iter body [] pos :: rest) ss O D :=
  sj_for (ix := [v, u]) Inv hi (pg_tup hc (pgs_cons (pg_name (i := v) hN hx hl (hf := hfx)) (pgs_cons (pg_name (i := u) hN hy hly (hf := hfy)) pgs_nil)) hw hst) hp hc h0 hn (fun i ss1 O1 hi iv => by rw [ht i hi]; exact gj_tup2 v u (hb i ss1 O1 hi iv)) hd hs
/-- [elt for x in iter], a plain map -/
theorem lj_map1 (v : Nat) (f : Nat → PyData) (ok : BlkOk X.N X.env.scope scope [(x, v)]) (hN : X.N.Nodup) (hi : IJ X R (.Name x px) iter ss O n item any O1) (hm : n ≤ 16777216)
    (hb : ∀ i, i < n → ∀ s H C cl fp, EV (Bk X scope s H C cl fp) No elt ((ss.set v .und).set v (item i)) O1 (.dat (f i)) O1)
    (hx : X.N[v]? = some x := by rfl) (hlx : ∀ s H C cl fp, Loc (Bk X scope s H C cl fp).env.scope x := by intro _ _ _ _ _; first | exact Or.inl rfl | exact Or.inr rfl) (hfx : ∀ s H C cl fp, (Bk X scope s H C cl fp).fn x = true ∨ (Bk X scope s H C cl fp).env.scope.names.lookup x = some .local := by intro _ _ _ _ _; first | exact .inl rfl | exact .inr rfl) : LJ X R elt (.Name x px) iter [] scope ss O fun p O' => O' = (p, .ol ((List.range n).map f)) :: O1 :=
  lj_map (ix := [v]) f ok hi (fun s H C cl fp => pg_name (i := v) hN hx (hlx s H C cl fp) (hf := hfx s H C cl fp)) (fun i hi => hi) hm (fun i hi => gj_name v (fun s H C cl fp => hb i hi s H C cl fp))
theorem lj_mapIf1 (v : Nat) (t : Nat → Bool) (f : Nat → PyData) (ok : BlkOk X.N X.env.scope scope [(x, v)]) (hN : X.N.Nodup) (hi : IJ X R (.Name x px) iter ss O n item any O1) (hm : n ≤ 16777216)
    (ht : ∀ i, i < n → ∀ s H C cl fp, TV (Bk X scope s H C cl fp) No c ((ss.set v .und).set v (item i)) O1 (t i) O1)
    (hb : ∀ i, i < n → t i = true → ∀ s H C cl fp, EV (Bk X scope s H C cl fp) No elt ((ss.set v .und).set v (item i)) O1 (.dat (f i)) O1)
    (hx : X.N[v]? = some x := by rfl) (hlx : ∀ s H C cl fp, Loc (Bk X scope s H C cl fp).env.scope x := by intro _ _ _ _ _; first | exact Or.inl rfl | exact Or.inr rfl) (hfx : ∀ s H C cl fp, (Bk X scope s H C cl fp).fn x = true ∨ (Bk X scope s H C cl fp).env.scope.names.lookup x = some .local := by intro _ _ _ _ _; first | exact .inl rfl | exact .inr rfl) : LJ X R elt (.Name x px) iter [c] scope ss O fun p O' => O' = (p, .ol (((List.range n).filter t).map f)) :: O1 :=
  lj_mapIf (ix := [v]) t f ok hi (fun s H C cl fp => pg_name (i := v) hN hx (hlx s H C cl fp) (hf := hfx s H C cl fp)) (fun i hi => hi) hm (fun i hi => gj_name v ⟨fun s H C cl fp => ht i hi s H C cl fp, fun h s H C cl fp => hb i hi h s H C cl fp⟩)
/-- [elt for x, y in iter] -/
theorem lj_map2 (v u : Nat) {d1 d2 : Nat → PyData} {py pt : Pos} {kt : Nat} (f : Nat → PyData) (ok : BlkOk X.N X.env.scope scope [(x, v), (y, u)]) (hN : X.N.Nodup) (hi : IJ X R (.Tuple [.Name x px, .Name y py] kt pt) iter ss O n item any O1) (ht : ∀ i, i < n → item i = .dat (.tuple [d1 i, d2 i])) (hm : n ≤ 16777216)
    (hb : ∀ i, i < n → ∀ s H C cl fp, EV (Bk X scope s H C cl fp) No elt ((((ss.set u .und).set v .und).set v (.dat (d1 i))).set u (.dat (d2 i))) O1 (.dat (f i)) O1)
    (hc : X.calm = true := by rfl) (hx : X.N[v]? = some x := by rfl) (hlx : ∀ s H C cl fp, Loc (Bk X scope s H C cl fp).env.scope x := by intro _ _ _ _ _; first | exact Or.inl rfl | exact Or.inr rfl) (hfx : ∀ s H C cl fp, (Bk X scope s H C cl fp).fn x = true ∨ (Bk X scope s H C cl fp).env.scope.names.lookup x = some .local := by intro _ _ _ _ _; first | exact .inl rfl | exact .inr rfl) (hy : X.N[u]? = some y := by rfl) (hly : ∀ s H C cl fp, Loc (Bk X scope s H C cl fp).env.scope y := by intro _ _ _ _ _; first | exact Or.inl rfl | exact Or.inr rfl) (hfy : ∀ s H C cl fp, (Bk X scope s H C cl fp).fn y = true ∨ (Bk X scope s H C cl fp).env.scope.names.lookup y = some .local := by intro _ _ _ _ _; first | exact .inl rfl | exact .inr rfl)
    (hw : ∀ s H C cl fp, (assignEach [.Name x px, .Name y py] (Bk X scope s H C cl fp).env).length = 2 := by intro _ _ _ _ _; rfl) (hst : ∀ s H C cl fp, (assignEach [.Name x px, .Name y py] (Bk X scope s H C cl fp).env).findIdx? (·.1) = none := by intro _ _ _ _ _; rfl) : LJ X R elt (.Tuple [.Name x px, .Name y py] kt pt) iter [] scope ss O fun p O' => O' = (p, .ol ((List.range n).map f)) :: O1 :=
  lj_map (ix := [v, u]) (g := gTup X.K 2 (gCons (gName v) (gCons (gName u) gNil))) f ok hi (fun s H C cl fp => pg_tup (X := Bk X scope s H C cl fp) hc (pgs_cons (pg_name (X := Bk X scope s H C cl fp) (i := v) hN hx (hlx s H C cl fp) (hf := hfx s H C cl fp)) (pgs_cons (pg_name (X := Bk X scope s H C cl fp) (i := u) hN hy (hly s H C cl fp) (hf := hfy s H C cl fp)) pgs_nil)) (hw s H C cl fp) (hst s H C cl fp)) (fun i hi => hi) hm (fun i hi => by rw [ht i hi]; exact gj_tup2 v u (fun s H C cl fp => hb i hi s H C cl fp))
/-- [elt for x in iter], the store changes -/
theorem lj_inv1 (v : Nat) (Inv : Nat → List PyData → Store → Prop) (ok : BlkOk X.N X.env.scope scope [(x, v)]) (hN : X.N.Nodup) (hi : IJ X R (.Name x px) iter ss O n item need O1) (hm : n ≤ 16777216) (h0 : Inv 0 [] O1) (hn : ∀ i acc O, Inv i acc O → need O) (hl2 : ∀ i acc O, Inv i acc O → acc.length ≤ i)
    (hb : ∀ i acc O2, i < n → Inv i acc O2 → ∀ s H C cl fp, EJ (Bk X scope s H C cl fp) No elt ((ss.set v .und).set v (item i)) O2 fun k O' => ∃ d, k = .dat d ∧ Inv (i + 1) (acc ++ [d]) O')
    (hx : X.N[v]? = some x := by rfl) (hlx : ∀ s H C cl fp, Loc (Bk X scope s H C cl fp).env.scope x := by intro _ _ _ _ _; first | exact Or.inl rfl | exact Or.inr rfl) (hfx : ∀ s H C cl fp, (Bk X scope s H C cl fp).fn x = true ∨ (Bk X scope s H C cl fp).env.scope.names.lookup x = some .local := by intro _ _ _ _ _; first | exact .inl rfl | exact .inr rfl) : LJ X R elt (.Name x px) iter [] scope ss O fun p O' => ∃ ds O2, O' = (p, .ol ds) :: O2 ∧ Inv n ds O2 :=
  LJ.ol (Inv := Inv n) ((lc_any (own := [(x, v)]) (ix := [v]) (tt := tYes) (fun i acc O => ∃ ds : List PyData, acc = ds.map .dat ∧ Inv i ds O) ok hi (fun s H C cl fp => pg_name (i := v) hN hx (hlx s H C cl fp) (hf := hfx s H C cl fp)) (fun i hi => hi) (fun _ _ _ _ _ => pts_nil) ⟨[], rfl, h0⟩ (fun i acc O ⟨ds, _, iv⟩ => hn i ds O iv) (fun i acc O ⟨ds, e, iv⟩ => by rw [e, List.length_map]; exact hl2 i ds O iv) hm (fun i acc O2 hlt ⟨ds, e, iv⟩ => by
    subst e
    refine gj_name v ?_
    intro G0 H0 G H σ2 S2 Q2 q2
    refine q2 G H true O2 S2 (Ex.refl G) ?_
    rw [if_pos rfl]
    intro s Hb C cl fp
    refine (hb i ds O2 hlt iv s Hb C cl fp).imp ?_
    rintro k O ⟨d, rfl, iv2⟩
    exact ⟨ds ++ [d], by rw [List.map_append]; rfl, iv2⟩)).imp' fun G0 H0 G H σ p O' S ⟨acc, O2, e, ds, e1, iv⟩ => ⟨O', S, acc, O2, e, ds, e1, iv⟩)
/-- [elt for x in iter], own things -/
theorem lj_own1 (v : Nat) (Inv : Nat → List Kd → Store → Prop) (ok : BlkOk X.N X.env.scope scope [(x, v)]) (hN : X.N.Nodup) (hi : IJ X R (.Name x px) iter ss O n item need O1) (hm : n ≤ 16777216) (h0 : Inv 0 [] O1) (hn : ∀ i acc O, Inv i acc O → need O) (hl2 : ∀ i acc O, Inv i acc O → acc.length ≤ i)
    (hb : ∀ i acc O2, i < n → Inv i acc O2 → ∀ s H C cl fp, EJ (Bk X scope s H C cl fp) No elt ((ss.set v .und).set v (item i)) O2 fun k O' => Inv (i + 1) (acc ++ [k]) O')
    (hx : X.N[v]? = some x := by rfl) (hlx : ∀ s H C cl fp, Loc (Bk X scope s H C cl fp).env.scope x := by intro _ _ _ _ _; first | exact Or.inl rfl | exact Or.inr rfl) (hfx : ∀ s H C cl fp, (Bk X scope s H C cl fp).fn x = true ∨ (Bk X scope s H C cl fp).env.scope.names.lookup x = some .local := by intro _ _ _ _ _; first | exact .inl rfl | exact .inr rfl) : LJ X R elt (.Name x px) iter [] scope ss O fun p O' => ∃ acc O2, O' = (p, .okl acc) :: O2 ∧ Inv n acc O2 :=
  lc_any (own := [(x, v)]) (ix := [v]) (tt := tYes) Inv ok hi (fun s H C cl fp => pg_name (i := v) hN hx (hlx s H C cl fp) (hf := hfx s H C cl fp)) (fun i hi => hi) (fun _ _ _ _ _ => pts_nil) h0 hn hl2 hm (fun i acc O2 hlt iv => by
    refine gj_name v ?_
    intro G0 H0 G H σ2 S2 Q2 q2
    refine q2 G H true O2 S2 (Ex.refl G) ?_
    rw [if_pos rfl]
    intro s Hb C cl fp
    exact hb i acc O2 hlt iv s Hb C cl fp)
/-- from a judgement over lists to a new list that goes on -/
theorem ej_lj {Φ' : Addr → Store → Prop} (h : LJ X R elt a iter ifs scope ss O Φ') (hq : ∀ p O', Φ' p O' → Φ (.val (.ref p)) O') (hN : X.N.Nodup) (hc : X.calm = true := by rfl) (hs : ∀ x, foldedSetIterable iter X.env x = pure x := by intro _; rfl) : EJ X R (.ListComp elt [⟨a, iter, ifs, 0⟩] scope pos) ss O Φ :=
  EJ.imp (ej_lcv h hN hc hs) fun k O ⟨p, e1, e2⟩ => by subst e1; exact hq p O e2
/-- a judgement of a new list, as data -/
theorem EJ.frzJ {Inv : List PyData → Store → Prop} (h : EJ X R e ss O fun k O' => ∃ p ds O2, k = .val (.ref p) ∧ O' = (p, .ol ds) :: O2 ∧ Inv ds O2) : EJ X R e ss O fun k O' => ∃ ds, k = .dat (.list ds) ∧ Inv ds O' := fun G0 H0 G H σ S L Q q => h G0 H0 G H σ S L Q fun G1 H1 v k O1 S1 e1 r1 ⟨p, ds, O2, h1, h2, iv⟩ => by
  subst h1 h2
  obtain ⟨G', S', e', d'⟩ := S1.freeze (i := 0) rfl
  have : v = .ref p := r1
  subst this
  exact q.d S' (e1.trans e') d' ⟨ds, rfl, iv⟩
/-- a call of one argument that is judged -/
theorem ej_t1J {id : String} {r : List V → Hp → VK → Prop} {x : Str} {p : Pos} {Φ1 : Kd → Store → Prop} (hc : CallR X (.type id) r) (ha : EJ X R e ss O Φ1) (h : ∀ k O1, Φ1 k O1 → CJ X r [k] O1 Φ) (hm : X.mg x = none) (hv : bootBuiltins x = some (.type id)) (hg : Gl X x := by rfl)
    (hn : x ≠ "__name__" := by decide) (hdb : (x == ("__debug__" : Str)) = false := by decide) (he : starEach [e] X.env = (false, eval e X.env) :: starEach [] X.env := by exact star_ne rfl) (hpl : (backTo pos (starEach [] X.env)).any (·.1) = false := by rfl) : EJ X R (.Call (.Name x p) [e] [] pos) ss O Φ := fun G0 H0 G H σ S L Q q =>
  wE_of (pe_callTy hc hg hm hv (pa_cons peW pa_nil he) hn hdb he hpl) (ha G0 H0 G H σ S L _ fun G1 H1 v k O2 S1 e1 r1 p1 => h k O2 p1 G0 H0 G1 H1 σ ss [v] S1 (.cons r1 .nil) Q (q.ex e1))
theorem ej_tupJ {Inv : List PyData → Store → Prop} {p : Pos} (ha : EJ X R e ss O fun k O' => ∃ ds, k = .dat (.list ds) ∧ Inv ds O') (hm : X.mg "tuple" = none) (hq : ∀ ds O', Inv ds O' → Φ (.dat (.tuple ds)) O') (hx : x = "tuple" := by rfl) (hg : Gl X x := by rfl) (he : starEach [e] X.env = (false, eval e X.env) :: starEach [] X.env := by exact star_ne rfl) :
    EJ X R (.Call (.Name x p) [e] [] pos) ss O Φ := by
  subst hx
  refine ej_t1J call_tuple_of ha (fun k O1 ⟨ds, hk, iv⟩ => ?_) hm boot_tuple hg (by decide) (by decide) he
  subst hk
  intro G0 H0 G H σ ss xs S h1 Q w
  obtain ⟨v, rfl, r⟩ := kinds1 h1
  obtain ⟨a, vs, rfl, g1, rv⟩ := dp_lst r
  refine ⟨a, vs, rfl, .inl ⟨.of (S.gh _ _ g1), fun l hl => ?_⟩⟩
  have eg : Ex G (upd G l (.tup vs)) := Ex.new (S.free hl)
  exact w.d (S.data hl (.tup vs)) eg (DP.tup upd_same (dpAll_ex eg rv)) (hq ds O1 iv)
/-- "".join of a judged list of texts -/
theorem ej_joinJ {s : Str} {Inv : List Tx → Store → Prop} {apos : Pos} {f : Expr} (ha : EV X R a ss O (.dat (.str s)) O1) (hs : s = sL []) (hf : EJ X R f ss O1 fun k O' => ∃ ds, k = .dat (.list ds) ∧ ∃ xs : List Tx, ds = xs.map dS ∧ xs.flatten.length ≤ 16777216 ∧ Inv xs O') (hq : ∀ xs O', Inv xs O' → Φ (.dat (dS xs.flatten)) O')
    (he : starEach [f] X.env = [(false, eval f X.env)] := by exact star_ne rfl) (hbase : attributeBase a "join" X.env (eval a X.env) = eval a X.env := by rfl) (hline : (apos.endLine == pos.line) = true := by rfl) : EJ X R (.Call (.Attribute a "join" apos) [f] [] pos) ss O Φ := fun G0 H0 G H σ S L Q q =>
  wE_of (pe_join peW peW he hbase hline) (ha G0 H0 G H σ S L _ fun G1 H1 v k1 O3 S1 e1 r1 ⟨h1, h2⟩ => by
    subst h1 h2 hs
    refine ⟨⟨_, dp_str r1⟩, hf G0 H0 G1 H1 σ S1 L _ fun G2 H2 v2 k2 O4 S2 e2 r2 ⟨ds, h3, xs, h4, hz, iv⟩ => ?_⟩
    subst h3 h4
    obtain ⟨p, vs, rfl, g1, rv⟩ := dp_lst r2
    have ev := dps_strs (bs := xs.map sL) (by rw [List.map_map]; exact rv)
    subst ev
    refine ⟨sL [], p, xs.map sL, dp_str r1, rfl, .inl (.of (S2.gh _ _ g1)), ?_, ?_⟩
    · rw [sum_lens]
      show _ + _ * 0 ≤ _
      omega
    · rw [TL.join_eq]
      have e := joins_nil xs
      rw [show (sL [] : Str) = Str.empty from rfl, e]
      exact q.d S2 (e1.trans e2) (DP.str _) (hq xs O4 iv))
end
end Dl
/-! frames; the bags of drawn numbers -/
namespace Dl
open PySem PySem.Spec PyProof.Rows L2
open Evl (Ex)
section
variable {X : Cx} {R : Addr → Prop} {e a b c elt iter : Expr} {es ifs : List Expr} {ss : List Kd} {O O1 O2 O3 O' : Store} {k ka kb : Kd} {ks : List Kd} {Φ Ψ : Kd → Store → Prop} {pos px : Pos} {st : Stmt} {sts rest body : List Stmt} {D D' : DE} {n : Nat} {item : Nat → Kd} {need : Store → Prop} {x y : Str} {scope : Scope}
def DE.fr (D : DE) (F : Store) : DE := { nx := fun ss' O' => ∃ O1, O' = F ++ O1 ∧ D.nx ss' O1, rt := fun k O' => ∃ O1, O' = F ++ O1 ∧ D.rt k O1, bk := fun ss' O' => ∃ O1, O' = F ++ O1 ∧ D.bk ss' O1, ct := fun ss' O' => ∃ O1, O' = F ++ O1 ∧ D.ct ss' O1 }
theorem SJ.frame1 {q : Addr × Ob} (h : SJ X R sts ss O D) : SJ X R sts ss (q :: O) (D.fr [q]) := fun G0 H0 G H σ S L E s => by
  obtain ⟨S', le⟩ := S.hide
  exact h G0 _ G H σ S' (L.mono le) E ⟨fun G1 H1 σ' ss' O1 S1 e1 p => s.nx G1 H1 σ' ss' _ (S.unhide S1 e1) e1 ⟨O1, rfl, p⟩, fun G1 H1 σ' ss' v k O1 S1 e1 r p => s.rt G1 H1 σ' ss' v k _ (S.unhide S1 e1) e1 r ⟨O1, rfl, p⟩,
    fun G1 H1 σ' ss' O1 S1 e1 p => s.bk G1 H1 σ' ss' _ (S.unhide S1 e1) e1 ⟨O1, rfl, p⟩, fun G1 H1 σ' ss' O1 S1 e1 p => s.ct G1 H1 σ' ss' _ (S.unhide S1 e1) e1 ⟨O1, rfl, p⟩⟩
theorem SJ.frame (h : SJ X R sts ss O D) : ∀ F : Store, SJ X R sts ss (F ++ O) (D.fr F)
  | [] => h.imp (fun ss O p => ⟨O, rfl, p⟩) (fun k O p => ⟨O, rfl, p⟩) (fun ss O p => ⟨O, rfl, p⟩) (fun ss O p => ⟨O, rfl, p⟩)
  | q :: F => ((SJ.frame h F).frame1 (q := q)).imp (fun ss O ⟨O1, e, O2, e2, p⟩ => ⟨O2, by rw [e, e2]; rfl, p⟩) (fun ss O ⟨O1, e, O2, e2, p⟩ => ⟨O2, by rw [e, e2]; rfl, p⟩) (fun ss O ⟨O1, e, O2, e2, p⟩ => ⟨O2, by rw [e, e2]; rfl, p⟩) (fun ss O ⟨O1, e, O2, e2, p⟩ => ⟨O2, by rw [e, e2]; rfl, p⟩)
/-- at the ends some objects are let go -/
def DE.lt (D : DE) : DE := { nx := fun ss' O' => ∃ O1 : Store, O1.Sublist O' ∧ D.nx ss' O1, rt := fun k O' => ∃ O1 : Store, O1.Sublist O' ∧ D.rt k O1, bk := fun ss' O' => ∃ O1 : Store, O1.Sublist O' ∧ D.bk ss' O1, ct := fun ss' O' => ∃ O1 : Store, O1.Sublist O' ∧ D.ct ss' O1 }
theorem Sta.sub {G0 H0 G H : Hp} {σ : L2.St} (S : Sta G0 H0 G H σ ss O) (h : O'.Sublist O) : Sta G0 H0 G H σ ss O' := S.less (fun q hq => h.subset hq) (S.nd.sublist (h.map _))
theorem SJ.lt (h : SJ X R sts ss O D.lt) : SJ X R sts ss O D := fun G0 H0 G H σ S L E s => h G0 H0 G H σ S L E
  ⟨fun G1 H1 σ' ss' O1 S1 e1 ⟨O2, l, p⟩ => s.nx G1 H1 σ' ss' O2 (S1.sub l) e1 p, fun G1 H1 σ' ss' v k O1 S1 e1 r ⟨O2, l, p⟩ => s.rt G1 H1 σ' ss' v k O2 (S1.sub l) e1 r p, fun G1 H1 σ' ss' O1 S1 e1 ⟨O2, l, p⟩ => s.bk G1 H1 σ' ss' O2 (S1.sub l) e1 p, fun G1 H1 σ' ss' O1 S1 e1 ⟨O2, l, p⟩ => s.ct G1 H1 σ' ss' O2 (S1.sub l) e1 p⟩
theorem EJ.nd (h : EJ X R e ss O Φ) : EJ X R e ss O fun k O' => Φ k O' ∧ (O'.map (·.1)).Nodup := fun G0 H0 G H σ S L Q q => h G0 H0 G H σ S L Q fun G1 H1 v k O1 S1 e1 r1 p => q G1 H1 v k O1 S1 e1 r1 ⟨p, S1.nd⟩
/-- for over what a call gives: an own list of own things -/
theorem s1_forJ (v : Nat) (hN : X.N.Nodup) (he : EJ X R iter ss O fun k O' => ∃ pl ks, k = .val (.ref pl) ∧ (pl, Ob.okl ks) ∈ O' ∧ ∃ Inv : Nat → List Kd → Store → Prop, Inv 0 ss O' ∧ (∀ i ss O, Inv i ss O → (pl, Ob.okl ks) ∈ O) ∧
      (∀ i ss1 O1 k, ks[i]? = some k → Inv i ss1 O1 → SJ X R body (ss1.set v k) O1 { D with nx := Inv (i + 1), ct := Inv (i + 1), bk := D.nx }) ∧ (∀ ss1 O1, Inv ks.length ss1 O1 → D.nx ss1 O1))
    (hx : X.N[v]? = some x := by rfl) (hl : Loc X.env.scope x := by first | exact Or.inl rfl | exact Or.inr rfl) (hfx : X.fn x = true ∨ X.env.scope.names.lookup x = some .local := by first | exact .inl rfl | exact .inr rfl) (hp : PassesOwn (model X.prog X.w) X.A X.env X.xe := by exact passes_of rfl) (hc : X.calm = true := by rfl)
    (hs : ∀ x, foldedSetIterable iter X.env x = pure x := by intro _; rfl) : S1 X R (.For (.Name x px) iter body [] pos) ss O D := fun G0 H0 G H σ S L E s => by
  refine wS_of (ps_for hp hc (pi_list peW) (pg_name (i := v) hN hx hl (hf := hfx)) pssW hs) (he G0 H0 G H σ S L _ fun G1 H1 u k O' S1 e1 r1 ⟨pl, ks, hk, hm, Iv, h0, hn, hb, hd⟩ => ?_)
  subst hk
  have : u = .ref pl := r1
  subst this
  have get : ∀ {G H : Hp} {σ : L2.St} {ss : List Kd} {O : Store}, Sta G0 H0 G H σ ss O → (pl, Ob.okl ks) ∈ O → ∃ vs, H pl = some (.lst vs) ∧ Paired (KdAt G) vs ks := fun S hq => (S.ob _ hq).1
  obtain ⟨vs1, hv1, _⟩ := get S1 hm
  refine ⟨pl, rfl, ⟨vs1, .of hv1⟩, ?_⟩
  refine ⟨fun i m σ' H' => m = ks.length - i ∧ i ≤ ks.length ∧ ∃ ss' O' G', Sta G0 H0 G' H' σ' ss' O' ∧ Ex G1 G' ∧ Iv i ss' O', ⟨ks.length, by simp, Nat.zero_le _, ss, O', G1, S1, Ex.refl _, h0⟩, ?_⟩
  rintro i m σ' H' ⟨rfl, hi, ss', O2, G', S', e', iv⟩
  obtain ⟨vs, hv, rv⟩ := get S' (hn _ _ _ iv)
  have hlen := paired_len rv
  by_cases hlt : i < ks.length
  · obtain ⟨z, hz, rz⟩ := paired_get rv (List.getElem?_eq_getElem hlt)
    refine .inr ⟨⟨vs, z, .of hv, hz⟩, fun σ2 H2 => ∃ ss2 O3 G2, Sta G0 H0 G2 H2 σ2 ss2 O3 ∧ Ex G1 G2 ∧ Iv (i + 1) ss2 O3, fun σ2 H2 ⟨ss2, O3, G2, S2, e2, iv2⟩ => ⟨ks.length - (i + 1), by omega, rfl, by omega, ss2, O3, G2, S2, e2, iv2⟩, fun x H2 y => ?_⟩
    obtain ⟨rfl, y⟩ := y
    have ez := (y vs (.of hv)).symm.trans hz
    cases ez
    refine hb i ss' O2 _ (List.getElem?_eq_getElem hlt) iv G0 H0 G' H2 _ (S'.set v rz) L _ ⟨fun G4 H4 σ4 ss4 O4 S4 e4 p => ⟨ss4, O4, G4, S4, e'.trans e4, p⟩, fun G4 H4 σ4 ss4 v k O4 S4 e4 r p => s.rt G4 H4 σ4 ss4 v k O4 S4 ((e1.trans e').trans e4) r p,
      fun G4 H4 σ4 ss4 O4 S4 e4 p => s.nx G4 H4 σ4 ss4 O4 S4 ((e1.trans e').trans e4) p, fun G4 H4 σ4 ss4 O4 S4 e4 p => ⟨ss4, O4, G4, S4, e'.trans e4, p⟩⟩
  · have e : i = ks.length := by omega
    subst e
    exact .inl ⟨⟨vs, .of hv, Nat.le_of_eq hlen⟩, s.nx G' H' σ' ss' O2 S' (e1.trans e') (hd _ _ iv)⟩
/-! ### bags -/
abbrev dN (ds : List Nat) : List PyData := ds.map fun (d : Nat) => PyData.int (d : Int)
abbrev BagO (ds : List Nat) (i : Nat) : Ob := .ol [.list (dN ds), .int i]
def Gd (ds : List Nat) : Prop := ds.length = 400 ∧ ∀ d ∈ ds, d < 1000
abbrev bagRefs (bs : List (Addr × List Nat)) : List Kd := bs.map fun b => .val (.ref b.1)
abbrev bagObs (bs : List (Addr × List Nat)) : Store := bs.map fun b => (b.1, BagO b.2 0)
/-- for bag in _law_bags(..): each bag by itself; Gs: what the turns keep of the slots -/
theorem sj_bags (v : Nat) (Gs : List Kd → Prop) (hN : X.N.Nodup) (he : EJ X R iter ss O fun k O' => ∃ pl bs, k = .val (.ref pl) ∧ O' = (pl, .okl (bagRefs bs)) :: bagObs bs ∧ ∀ b ∈ bs, Gd b.2) (h0 : Gs ss)
    (hb : ∀ ss1 p ds, Gd ds → Gs ss1 → SJ X R body (ss1.set v (.val (.ref p))) [(p, BagO ds 0)] { nx := fun ss' _ => Gs ss', ct := fun ss' _ => Gs ss', rt := fun k _ => D.rt k [], bk := fun ss' _ => SJ X R rest ss' [] D }) (hd : ∀ ss1, Gs ss1 → SJ X R rest ss1 [] D)
    (hx : X.N[v]? = some x := by rfl) (hl : Loc X.env.scope x := by first | exact Or.inl rfl | exact Or.inr rfl) (hfx : X.fn x = true ∨ X.env.scope.names.lookup x = some .local := by first | exact .inl rfl | exact .inr rfl) (hp : PassesOwn (model X.prog X.w) X.A X.env X.xe := by exact passes_of rfl) (hc : X.calm = true := by rfl)
    (hs : ∀ x, foldedSetIterable iter X.env x = pure x := by intro _; rfl) : SJ X R (.For (.Name x px) iter body [] pos :: rest) ss O D := by
  refine sj_cons (s1_forJ v hN (EJ.imp he fun k O' ⟨pl, bs, h1, h2, h3⟩ => ?_) hx hl hfx hp hc hs)
  subst h1 h2
  refine ⟨pl, bagRefs bs, rfl, List.mem_cons_self, fun i ss' O' => Gs ss' ∧ O' = (pl, .okl (bagRefs bs)) :: bagObs (bs.drop i), ⟨h0, by rw [List.drop_zero]⟩, fun i ss O ⟨_, e⟩ => by rw [e]; exact List.mem_cons_self, ?_, ?_⟩
  · rintro i ss1 O1 k hk ⟨g, rfl⟩
    obtain ⟨b, hb1, rfl⟩ : ∃ b, bs[i]? = some b ∧ k = .val (.ref b.1) := by
      rw [List.getElem?_map] at hk
      cases h : bs[i]? with
      | none => rw [h] at hk; cases hk
      | some b => rw [h] at hk; exact ⟨b, rfl, (Option.some.inj hk).symm⟩
    obtain ⟨hlt, hg⟩ := List.getElem?_eq_some_iff.mp hb1
    have ed : bs.drop i = b :: bs.drop (i + 1) := by rw [List.drop_eq_getElem_cons hlt, hg]
    have hbd := hb ss1 b.1 b.2 (h3 b (List.mem_of_getElem? hb1)) g
    have hf := SJ.frame hbd ((pl, .okl (bagRefs bs)) :: bagObs (bs.drop (i + 1)))
    rw [ed]
    refine SJ.lt ?_
    refine SJ.less (O' := ((pl, .okl (bagRefs bs)) :: bagObs (bs.drop (i + 1))) ++ [(b.1, BagO b.2 0)]) ?_ (fun q hq => ?_) (fun hnd => ?_)
    · refine hf.imp ?_ ?_ ?_ ?_
      · rintro ss' O' ⟨O2, rfl, g⟩
        exact ⟨_, List.sublist_append_left _ _, g, rfl⟩
      · rintro k O' ⟨O2, rfl, g⟩
        exact ⟨[], List.nil_sublist _, g⟩
      · rintro ss' O' ⟨O2, rfl, g⟩
        exact ⟨[], List.nil_sublist _, g⟩
      · rintro ss' O' ⟨O2, rfl, g⟩
        exact ⟨_, List.sublist_append_left _ _, g, rfl⟩
    · rcases List.mem_append.mp hq with hq | hq
      · rcases List.mem_cons.mp hq with hq | hq
        · rw [hq]; exact List.mem_cons_self
        · exact List.mem_cons_of_mem _ (List.mem_cons_of_mem _ hq)
      · rw [List.mem_singleton.mp hq]
        exact List.mem_cons_of_mem _ List.mem_cons_self
    · have p : ((((pl, Ob.okl (bagRefs bs)) :: bagObs (bs.drop (i + 1))) ++ [(b.1, BagO b.2 0)]).map (·.1)).Perm (((pl, Ob.okl (bagRefs bs)) :: bagObs (b :: bs.drop (i + 1))).map (·.1)) := by
        refine List.Perm.map _ ?_
        refine (List.perm_append_singleton _ _).trans ?_
        exact List.Perm.swap _ _ _
      exact p.nodup_iff.mpr hnd
  · rintro ss1 O1 ⟨g, rfl⟩
    refine SJ.less (hd ss1 g) (fun _ h => (nomatch h)) (fun _ => List.nodup_nil)
/-- [a, b, ..], judged -/
theorem ej_lst (h : AJ X R es ss O fun ks O' => ∃ ds : List PyData, ks = ds.map .dat ∧ ds.length ≤ 16777216 ∧ ∀ p, Φ (.val (.ref p)) ((p, .ol ds) :: O')) : EJ X R (.List es pos) ss O Φ :=
  fun G0 H0 G H σ S L Q q => wE_of (pe_lst paW) (h G0 H0 G H σ S L _ fun G1 H1 vs k1 O1 S1 e1 r1 ⟨ds, h1, h2, h3⟩ => by
    subst h1
    have r := kinds_dp r1
    refine ⟨by rw [dpAll_len r, sizeLine_eq]; exact h2, fun p hp => ?_⟩
    exact q.v (S1.new hp (b := .ol ds) ⟨vs, upd_same, r⟩) e1 (h3 p))
/-- a call, an object of the store lent, wherever it stands -/
theorem ej_calM {q : Addr × Ob} {n m : Nat} {ps : List Str} {T : DSp} {x : Str} {p : Pos} (C : Cal X.prog X.w X.K X.mg X.base x n ps T) (hr : Room m X.A) (hl : n ≤ m) (ha : AV X R (e :: es) ss O ks O1) (hq : q ∈ O1) (hT : ∀ F, O1.Perm (q :: F) → T ks [q] (fun r B' => Φ r (B' ++ F)) R) (hg : Gl X x := by rfl)
    (hdb : (x == ("__debug__" : Str)) = false := by decide) (he : starEach (e :: es) X.env = (false, eval e X.env) :: starEach es X.env := by exact star_ne rfl) (hpl : (backTo pos (starEach es X.env)).any (·.1) = false := by rfl) : EJ X R (.Call (.Name x p) (e :: es) [] pos) ss O Φ := by
  obtain ⟨f, fd, a, b, c, d⟩ := C.ex
  obtain ⟨s, t, e⟩ := List.append_of_mem hq
  refine ej_call (dk := []) (d.mono hl) hr hg a b c .nil (fun _ => .nil) ha (fun ks' O' ⟨e1, e2⟩ => ?_) hdb he hpl
  rw [e1, e2]
  have pm : O1.Perm (q :: (s ++ t)) := by rw [e]; exact List.perm_middle
  exact ⟨[q], s ++ t, pm, by rw [List.append_nil]; exact hT _ pm⟩
/-- a call, a part of the store lent -/
theorem ej_calP {B F : Store} {n m : Nat} {ps : List Str} {T : DSp} {x : Str} {p : Pos} (C : Cal X.prog X.w X.K X.mg X.base x n ps T) (hr : Room m X.A) (hl : n ≤ m) (ha : AV X R (e :: es) ss O ks O1) (pm : O1.Perm (B ++ F)) (hT : T ks B (fun r B' => Φ r (B' ++ F)) R) (hg : Gl X x := by rfl)
    (hdb : (x == ("__debug__" : Str)) = false := by decide) (he : starEach (e :: es) X.env = (false, eval e X.env) :: starEach es X.env := by exact star_ne rfl) (hpl : (backTo pos (starEach es X.env)).any (·.1) = false := by rfl) : EJ X R (.Call (.Name x p) (e :: es) [] pos) ss O Φ := by
  obtain ⟨f, fd, a, b, c, d⟩ := C.ex
  refine ej_call (dk := []) (d.mono hl) hr hg a b c .nil (fun _ => .nil) ha (fun ks' O' ⟨e1, e2⟩ => ?_) hdb he hpl
  rw [e1, e2]
  exact ⟨B, F, pm, by rw [List.append_nil]; exact hT⟩
theorem ev_t {x : Str} {n : String} (hm : X.mg x = none) (hv : bootBuiltins x = some (.type n)) (hg : Gl X x := by rfl) (hn : x ≠ "__name__" := by decide) (hd : (x == ("__debug__" : Str)) = false := by decide) : EV X R (.Name x pos) ss O (.val (.ty n)) O := ev_ty hg hm hv hn hd
end
end Dl
namespace Fc
open PySem PySem.Spec PyProof.Rows L2 Dl
open Evl (Ex)
def topS (i : Nat) : Stmt := PySem.Challenge.pw_signlayers_k01_layers_and_stacks_recogni.main.body.getD i (.Pass ⟨0, 0, 0, 0⟩)
abbrev s_cell : Stmt := topS 8
abbrev s_draws : Stmt := topS 9
abbrev s_bag : Stmt := topS 11
abbrev s_bags : Stmt := topS 12
abbrev s_take : Stmt := topS 13
abbrev s_pool : Stmt := topS 15
abbrev s_layer : Stmt := topS 16
abbrev s_stack : Stmt := topS 17
section
variable {P : Program} {w : World} {K : PySem.W.Frag} {mg : Str → Option Value} {base : Heap}
/-! ### _law_cell_at -/
def tCell (K : PySem.W.Frag) : DSp := fun ks B k _ => ∃ a ns, ∃ i : Nat, ks = [.val (.ref a), .dat (.int i)] ∧ ScB K a ns B ∧ k (.dat (.int (ns.getD i 0))) B
theorem sc_cell : FnScope ["script", "k"] ["script", "k"] (defScope s_cell) := ⟨rfl, rfl, rfl, by decide +kernel, rfl, by decide +kernel, by decide +kernel⟩
theorem c_cell (D : Dfn K mg "_law_cell_at" s_cell) (b : Bn mg) : Cal P w K mg base "_law_cell_at" 1 ["script", "k"] (tCell K) := by
  refine cal_of D sc_cell (fun _ _ _ _ _ _ us hl => match us, hl with | [_, _], _ => rfl) (fun ks B k R ⟨a, ns, i, h, _⟩ => by rw [h]; rfl) ?_
  rintro f cdv A outer s H E ks B k R hr ⟨a, ns, i, rfl, hB, h⟩
  refine sj_ifR (tv_lt (ev_v 1) (ev_lenR (ev_v 0) hB b.len)) (fun h1 => ?_) (fun h1 => ?_)
  · have h1 : i < ns.length := by have := of_decide_eq_true h1; omega
    have e : atI ns i = some (ns.getD i 0) := by
      rw [atI_nat (j := i) (v := ns[i]) (List.getElem?_eq_getElem h1)]
      simp [List.getD_eq_getElem?_getD, h1]
    exact sj_ret (ev_ixR (ev_v 0) (ev_v 1) hB e) (finA h)
  · have h1 : ¬ i < ns.length := by have := of_decide_eq_false h1; omega
    refine sj_ret ev_int ?_
    have e : ns.getD i 0 = 0 := by simp [List.getD_eq_getElem?_getD, List.getElem?_eq_none (by omega : ns.length ≤ i)]
    rw [e] at h
    exact finA h
/-! ### _law_draws -/
def tDraws : DSp := fun ks B k _ => ∃ c : Int, ∃ m s : Nat, ks = [.dat (.int c), .dat (.int m), .dat (.int s)] ∧ B = [] ∧ 0 < s ∧ s < 100000 ∧ m < 100000 ∧ ∀ ds : List Nat, ds.length = m → (∀ d ∈ ds, d < s) → k (.dat (.list (dN ds))) []
abbrev nDraws : List Str := ["cell", "many", "size", "found", "rest", "stirred", "k"]
theorem sc_draws : FnScope nDraws ["cell", "many", "size"] (defScope s_draws) := ⟨rfl, rfl, rfl, by decide +kernel, rfl, by decide +kernel, by decide +kernel⟩
theorem c_draws (D : Dfn K mg "_law_draws" s_draws) (b : Bn mg) : Cal P w K mg base "_law_draws" 1 ["cell", "many", "size"] tDraws := by
  refine cal_of D sc_draws (fun _ _ _ _ _ _ us hl => match us, hl with | [_, _, _], _ => rfl) (fun ks B k R ⟨c, m, s, h, _⟩ => by rw [h]; rfl) ?_
  rintro f cdv A outer s H E ks B k R hr ⟨c, m, sz, rfl, rfl, h0, h1, h2, h⟩
  refine sj_setN 3 (en_lst (ds := []) av_nil rfl (by simp)) (fun p => ?_) sc_draws.nd
  refine sj_set 4 (ev_mul (ev_v 0) (ev_intB (ev_ge (ev_v 0) (ev_pow ev_int ev_int ⟨by decide, by decide, by decide⟩)) b.int) (.inr (by split <;> decide))) ?_ sc_draws.nd
  refine sj_set 5 (ev_mod (ev_v 0) ev_int (by decide)) ?_ sc_draws.nd
  generalize hr0 : (c * if decide ((10 : Int) ^ (18 : Int).toNat ≤ c) = true then 1 else 0) = rest0
  have hrest : 0 ≤ rest0 := by
    rw [← hr0]
    split
    · rename_i hh
      have := of_decide_eq_true hh
      have : (0 : Int) ≤ (10 : Int) ^ (18 : Int).toNat := by decide
      omega
    · omega
  refine sj_for1 6 (fun i ss O => ∃ (rs st : Int) (ds : List Nat) (kk : Kd), ss = [.dat (.int c), .dat (.int m), .dat (.int sz), .val (.ref p), .dat (.int rs), .dat (.int st), kk] ∧ O = [(p, .ol (dN ds))] ∧ 0 ≤ st ∧ st < 2305843009213693951 ∧ 0 ≤ rs ∧ ds.length = i - 3 ∧ ∀ d ∈ ds, d < sz)
    sc_draws.nd (ij_range1 (ev_add (ev_v 1) ev_int) (by omega) (by omega) b.range) ?_ (fun _ _ _ _ => trivial) ?_ ?_
  · exact ⟨_, _, [], .und, rfl, rfl, Int.emod_nonneg _ (by decide), Int.emod_lt_of_pos _ (by decide), hrest, rfl, by simp⟩
  · rintro i ss O hi ⟨rs, st, ds, kk, rfl, rfl, s1, s2, s3, s4, s5⟩
    refine sj_set 5 (ev_mod (ev_add (ev_add (ev_add (ev_mul (ev_v 5) (ev_v 5) ?_) (ev_mul ev_int (ev_v 5) ?_)) (ev_v 6)) ev_int) ev_int (by decide)) ?_ sc_draws.nd
    · exact .inl ⟨by omega, by omega⟩
    · exact .inl ⟨by decide, by decide⟩
    refine sj_if (wv_and (tv_gt (ev_v 6) ev_int) (fun _ => wv_and1 (tv_gt (ev_v 4) ev_int)) (fun _ => rfl)).tv (fun hc => ?_) (fun hc => ?_)
    · simp only [Bool.and_eq_true, decide_eq_true_eq] at hc
      refine sj_expr (ev_append 0 (ev_v 3) (ev_mod (ev_v 4) (ev_v 2) (by omega)) rfl rfl (by rw [List.length_map]; omega)) ?_
      refine sj_set 4 (ev_fdiv (ev_v 4) (ev_v 2) ⟨by omega, by omega⟩) ?_ sc_draws.nd
      refine sj_nil (sj_nil ?_)
      have hz : (0 : Int) < sz := by omega
      refine ⟨_, _, ds ++ [(rs % (sz : Int)).toNat], _, rfl, ?_, Int.emod_nonneg _ (by decide), Int.emod_lt_of_pos _ (by decide), Int.ediv_nonneg s3 (by omega), ?_, ?_⟩
      · have := Int.emod_nonneg rs (by omega : (sz : Int) ≠ 0)
        simp [Int.toNat_of_nonneg this]
      · rw [List.length_append, s4]; simp; omega
      · intro d hd
        rcases List.mem_append.mp hd with hd | hd
        · exact s5 d hd
        · rw [List.mem_singleton.mp hd]
          have := Int.emod_lt_of_pos rs hz
          have := Int.emod_nonneg rs (by omega : (sz : Int) ≠ 0)
          omega
    · refine sj_if (tv_gt (ev_v 6) ev_int) (fun hk => ?_) (fun hk => ?_)
      · simp only [decide_eq_true_eq] at hk
        refine sj_expr (ev_append 0 (ev_v 3) (ev_mod (ev_fdiv (ev_v 5) ev_int ⟨by decide, by decide⟩) (ev_v 2) (by omega)) rfl rfl (by rw [List.length_map]; omega)) ?_
        refine sj_nil (sj_nil (sj_nil ?_))
        have hz : (0 : Int) < sz := by omega
        generalize hx : ((st * st + 48271 * st + ↑i + 1) % 2305843009213693951) = x
        refine ⟨_, _, ds ++ [(x / 4096 % (sz : Int)).toNat], _, rfl, ?_, ?_, ?_, s3, ?_, ?_⟩
        · have := Int.emod_nonneg (x / 4096) (by omega : (sz : Int) ≠ 0)
          simp [Int.toNat_of_nonneg this]
        · rw [← hx]; exact Int.emod_nonneg _ (by decide)
        · rw [← hx]; exact Int.emod_lt_of_pos _ (by decide)
        · rw [List.length_append, s4]; simp; omega
        · intro d hd
          rcases List.mem_append.mp hd with hd | hd
          · exact s5 d hd
          · rw [List.mem_singleton.mp hd]
            have := Int.emod_lt_of_pos (x / 4096) hz
            have := Int.emod_nonneg (x / 4096) (by omega : (sz : Int) ≠ 0)
            omega
      · simp only [decide_eq_false_iff_not] at hk
        refine sj_nil (sj_nil (sj_nil ?_))
        exact ⟨_, _, ds, _, rfl, rfl, Int.emod_nonneg _ (by decide), Int.emod_lt_of_pos _ (by decide), s3, by omega, s5⟩
  · rintro ss O ⟨rs, st, ds, kk, rfl, rfl, s1, s2, s3, s4, s5⟩
    refine sj_frzL 3 0 rfl rfl ?_
    exact sj_ret (ev_v 3) (fin0 (h ds (by omega) s5))
/-! ### _law_bag -/
def tBag (K : PySem.W.Frag) : DSp := fun ks B k _ => ∃ a ns, ∃ i : Nat, ks = [.val (.ref a), .dat (.int i)] ∧ ScB K a ns B ∧ ∀ p ds, Gd ds → k (.val (.ref p)) ((p, BagO ds 0) :: B)
theorem sc_bag : FnScope ["script", "k"] ["script", "k"] (defScope s_bag) := ⟨rfl, rfl, rfl, by decide +kernel, rfl, by decide +kernel, by decide +kernel⟩
theorem c_bag (D : Dfn K mg "_law_bag" s_bag) (c1 : Cal P w K mg base "_law_cell_at" 1 ["script", "k"] (tCell K)) (c2 : Cal P w K mg base "_law_draws" 1 ["cell", "many", "size"] tDraws) : Cal P w K mg base "_law_bag" 2 ["script", "k"] (tBag K) := by
  refine cal_of D sc_bag (fun _ _ _ _ _ _ us hl => match us, hl with | [_, _], _ => rfl) (fun ks B k R ⟨a, ns, i, h, _⟩ => by rw [h]; rfl) ?_
  rintro f cdv A outer s H E ks B k R hr ⟨a, ns, i, rfl, hB, h⟩
  refine sj_retJ (ej_lst (aj_cons (ej_cal c2 hr (Nat.le_refl _) (av_cons (k := .dat (.int (ns.getD i 0))) (O1 := B) (ej_calP (B := B) (F := []) c1 hr (Nat.le_refl _) (av_cons (ev_v 0) (av_cons (ev_v 1) av_nil)) (by rw [List.append_nil]) ⟨a, ns, i, rfl, hB, rfl, List.append_nil _⟩) (av_cons ev_int (av_cons ev_int av_nil)))
    ⟨_, 400, 1000, rfl, rfl, by decide, by decide, by decide, fun ds h1 h2 => ?_⟩) (fun k O1 hk => hk)))
  refine (av_cons ev_int av_nil).to ⟨[.list (dN ds), .int 0], rfl, by simp, fun p => finA (h p ds ⟨h1, h2⟩)⟩
/-! ### _law_bags -/
def tBags (K : PySem.W.Frag) : DSp := fun ks B k _ => ∃ a ns, ∃ l : Nat, ks = [.val (.ref a), .dat (.int l)] ∧ ScB K a ns B ∧ l ≤ 1000 ∧ ∀ pl bs, (∀ b ∈ bs, Gd b.2) → k (.val (.ref pl)) ((pl, .okl (bagRefs bs)) :: bagObs bs)
theorem sc_bags : FnScope ["script", "limit", "k"] ["script", "limit"] (defScope s_bags) := ⟨rfl, rfl, rfl, by decide +kernel, rfl, by decide +kernel, by decide +kernel⟩
theorem c_bags (D : Dfn K mg "_law_bags" s_bags) (b : Bn mg) (c1 : Cal P w K mg base "_law_bag" 2 ["script", "k"] (tBag K)) : Cal P w K mg base "_law_bags" 3 ["script", "limit"] (tBags K) := by
  refine cal_of D sc_bags (fun _ _ _ _ _ _ us hl => match us, hl with | [_, _], _ => rfl) (fun ks B k R ⟨a, ns, i, h, _⟩ => by rw [h]; rfl) ?_
  rintro f cdv A outer s H E ks B k R hr ⟨a, ns, l, rfl, hB, hl, h⟩
  refine sj_retJ (EJ.imp (EJ.nd (ej_lj (Φ := fun k O' => ∃ p bs O2, k = .val (.ref p) ∧ O' = (p, .okl (bagRefs bs)) :: O2 ∧ (bs.map (·.1)).Nodup ∧ ∀ b ∈ bs, Gd b.2 ∧ (b.1, BagO b.2 0) ∈ O2)
    (lj_own1 2 (fun i acc O => ∃ (bs : List (Addr × List Nat)) (F : Store), bs.length = i ∧ acc = bagRefs bs ∧ O.Perm (B ++ F) ∧ (bs.map (·.1)).Nodup ∧ ∀ b ∈ bs, Gd b.2 ∧ (b.1, BagO b.2 0) ∈ F)
      (blkOk_by (N := ["script", "limit", "k"]) (sc := defScope s_bags) (own := [("k", 2)]) (by decide +kernel)) sc_bags.nd
      (ij_range1 (ev_max2 ev_int (ev_min2 (ev_v 1) (ev_lenR (ev_v 0) hB b.len) rfl b.min) rfl b.max) ?_ ?_ b.range) ?_ ⟨[], [], rfl, rfl, by rw [List.append_nil], List.nodup_nil, fun _ h => (nomatch h)⟩ (fun _ _ _ _ => trivial) ?_ ?_) ?_ sc_bags.nd)) ?_)
  · split <;> split <;> omega
  · split <;> split <;> omega
  · split <;> split <;> omega
  · rintro i acc O ⟨bs, F, e1, e2, _⟩
    rw [e2, List.length_map, e1]
    exact Nat.le_refl _
  · rintro i acc O2 hi ⟨bs, F, rfl, rfl, hs, hn, hm⟩ s H C cl fp
    refine EJ.imp (EJ.nd (ej_calP c1 hr (Nat.le_refl _) (av_cons (ev_v 0) (av_cons (ev_v 2) av_nil)) hs (Φ := fun k O' => ∃ p ds, k = .val (.ref p) ∧ Gd ds ∧ O' = ((p, BagO ds 0) :: B) ++ F) ⟨a, ns, bs.length, rfl, hB, fun p ds g => ⟨p, ds, rfl, g, rfl⟩⟩)) ?_
    rintro k O' ⟨⟨p, ds, rfl, g, rfl⟩, nd⟩
    refine ⟨bs ++ [(p, ds)], (p, BagO ds 0) :: F, by simp, by simp, List.perm_middle.symm, ?_, ?_⟩
    · rw [List.map_append, List.nodup_append]
      refine ⟨hn, by simp, fun x hx y hy e => ?_⟩
      obtain ⟨b, hb, rfl⟩ := List.mem_map.mp hx
      have : y = p := by simpa using hy
      subst this
      have h1 := (List.nodup_cons.mp nd).1
      exact h1 (List.mem_map.mpr ⟨_, List.mem_append_right _ (hm b hb).2, e⟩)
    · intro b hb
      rcases List.mem_append.mp hb with hb | hb
      · exact ⟨(hm b hb).1, List.mem_cons_of_mem _ (hm b hb).2⟩
      · have : b = (p, ds) := by simpa using hb
        subst this
        exact ⟨g, List.mem_cons_self⟩
  · rintro p O' ⟨acc, O2, e, bs, F, e1, e2, e3, e4, e5⟩
    exact ⟨p, bs, O2, rfl, by rw [e, e2], e4, fun b hb => ⟨(e5 b hb).1, e3.mem_iff.mpr (List.mem_append_right _ (e5 b hb).2)⟩⟩
  · rintro kk O' ⟨⟨p, bs, O2, rfl, rfl, h4, h5⟩, nd⟩
    refine ⟨(p, .okl (bagRefs bs)) :: bagObs bs, fun q hq => ?_, fun _ => ?_, h p bs fun b hb => (h5 b hb).1⟩
    · rcases List.mem_cons.mp hq with hq | hq
      · rw [hq]; exact List.mem_cons_self
      · obtain ⟨b, hb, rfl⟩ := List.mem_map.mp hq
        exact List.mem_cons_of_mem _ (h5 b hb).2
    · have e : (bagObs bs).map (·.1) = bs.map (·.1) := by rw [List.map_map]; rfl
      rw [List.map_cons, e]
      refine List.nodup_cons.mpr ⟨fun hm => ?_, h4⟩
      obtain ⟨b, hb, e⟩ := List.mem_map.mp hm
      exact (List.nodup_cons.mp nd).1 (List.mem_map.mpr ⟨_, (h5 b hb).2, e⟩)
/-! ### _law_take -/
def tk (ds : List Nat) (i n : Nat) : Nat := ds.getD (i % ds.length) 0 % n
theorem tk_lt {ds : List Nat} {i n : Nat} (h : 0 < n) : tk ds i n < n := Nat.mod_lt _ h
def tTake : DSp := fun ks B k _ => ∃ p ds, ∃ i n : Nat, ks = [.val (.ref p), .dat (.int n)] ∧ B = [(p, BagO ds i)] ∧ 0 < n ∧ Gd ds ∧ k (.dat (.int (tk ds (i + 1) n))) [(p, BagO ds (i + 1))]
theorem sc_take : FnScope ["bag", "many"] ["bag", "many"] (defScope s_take) := ⟨rfl, rfl, rfl, by decide +kernel, rfl, by decide +kernel, by decide +kernel⟩
theorem c_take (D : Dfn K mg "_law_take" s_take) (b : Bn mg) : Cal P w K mg base "_law_take" 1 ["bag", "many"] tTake := by
  refine cal_of D sc_take (fun _ _ _ _ _ _ us hl => match us, hl with | [_, _], _ => rfl) (fun ks B k R ⟨a, o, ns, i, h, _⟩ => by rw [h]; rfl) ?_
  rintro f cdv A outer s H E ks B k R hr ⟨p, ds, i, n, rfl, rfl, hn, hg, h⟩
  refine sj_setIx 0 (ev_add (ev_ixO 0 (ev_v 0) ev_int rfl rfl) ev_int) (ev_v 0) ev_int rfl (n := 1) rfl ?_
  have hl : (0 : Int) < (dN ds).length := by rw [List.length_map, hg.1]; decide
  have hm : (i + 1) % ds.length < ds.length := Nat.mod_lt _ (by rw [hg.1]; decide)
  refine sj_ret (ev_mod (ev_ixL (ev_ixO 0 (ev_v 0) ev_int rfl (d := .list (dN ds)) rfl) (ev_mod (ev_ixO 0 (ev_v 0) ev_int rfl (d := .int ((i : Int) + 1)) rfl) (ev_lenL (ev_ixO 0 (ev_v 0) ev_int rfl (d := .list (dN ds)) rfl) b.len) hl) (d := .int (ds.getD ((i + 1) % ds.length) 0 : Nat)) ?_) (ev_v 1) (by omega)) ?_
  · have e : ((i : Int) + 1) % ((dN ds).length : Nat) = (((i + 1) % ds.length : Nat) : Int) := by
      rw [List.length_map]; simp
    rw [e]
    refine atI_nat ?_
    rw [List.getElem?_map, List.getElem?_eq_getElem hm, List.getD_eq_getElem?_getD, List.getElem?_eq_getElem hm]
    rfl
  · have e : ((ds.getD ((i + 1) % ds.length) 0 : Nat) : Int) % (n : Int) = (tk ds (i + 1) n : Nat) := by simp [tk]
    rw [e]
    exact finA h
theorem ev_intE {X : Cx} {R : Addr → Prop} {e : Expr} {ss : List Kd} {O O' : Store} {i j : Int} (h : EV X R e ss O (.dat (.int i)) O') (q : i = j) : EV X R e ss O (.dat (.int j)) O' := by subst q; exact h
theorem ev_take {X : Cx} {R : Addr → Prop} {e1 e2 : Expr} {ss : List Kd} {O : Store} {pos q : Pos} {p : Addr} {ds : List Nat} {i n m : Nat} (c : Cal X.prog X.w X.K X.mg X.base "_law_take" 1 ["bag", "many"] tTake) (hr : Room m X.A) (hl : 1 ≤ m) (ha : EV X R e1 ss ((p, BagO ds i) :: O) (.val (.ref p)) ((p, BagO ds i) :: O)) (hb : EV X R e2 ss ((p, BagO ds i) :: O) (.dat (.int n)) ((p, BagO ds i) :: O))
    (hn : 0 < n) (hg : Gd ds) (hgl : Gl X "_law_take" := by rfl) (he : starEach [e1, e2] X.env = (false, eval e1 X.env) :: starEach [e2] X.env := by rfl) (he2 : starEach [e2] X.env = (false, eval e2 X.env) :: starEach [] X.env := by rfl) (hpl : (backTo pos (starEach [e2] X.env)).any (·.1) = false := by rfl) : EV X R (.Call (.Name "_law_take" q) [e1, e2] [] pos) ss ((p, BagO ds i) :: O) (.dat (.int (tk ds (i + 1) n))) ((p, BagO ds (i + 1)) :: O) :=
  ej_calO 0 c hr hl (av_cons ha (av_cons hb av_nil he2) he) rfl ⟨p, ds, i, n, rfl, rfl, hn, hg, rfl, rfl⟩ hgl (by decide) he hpl
/-! ### _law_pool -/
def pools : List Tx := [[97, 98], [97, 98, 99], [97, 98, 38, 59], [38, 59, 60, 39, 32, 97], [97, 98, 99, 100, 101, 102, 103, 104]]
theorem pool_ok : ∀ p ∈ pools, p ≠ [] ∧ p.length ≤ 8 ∧ p.Nodup := by decide
def tPool : DSp := fun ks B k _ => ∃ p ds, ∃ i : Nat, ks = [.val (.ref p)] ∧ B = [(p, BagO ds i)] ∧ Gd ds ∧ ∀ po ∈ pools, k (.dat (dS po)) [(p, BagO ds (i + 1))]
theorem sc_pool : FnScope ["bag"] ["bag"] (defScope s_pool) := ⟨rfl, rfl, rfl, by decide +kernel, rfl, by decide +kernel, by decide +kernel⟩
theorem c_pool (D : Dfn K mg "_law_pool" s_pool) (c1 : Cal P w K mg base "_law_take" 1 ["bag", "many"] tTake) : Cal P w K mg base "_law_pool" 2 ["bag"] tPool := by
  refine cal_of D sc_pool (fun _ _ _ _ _ _ us hl => match us, hl with | [_], _ => rfl) (fun ks B k R ⟨a, o, ns, h, _⟩ => by rw [h]; rfl) ?_
  rintro f cdv A outer s H E ks B k R hr ⟨p, ds, i, rfl, rfl, hg, h⟩
  have hlt : tk ds (i + 1) 5 < pools.length := tk_lt (by decide)
  refine sj_ret (ev_ixL (EN.frz (en_lst (ds := pools.map dS) (av_cons (ev_strE (y := sL [97, 98]) (by decide +kernel)) (av_cons (ev_strE (y := sL [97, 98, 99]) (by decide +kernel)) (av_cons (ev_strE (y := sL [97, 98, 38, 59]) (by decide +kernel)) (av_cons (ev_strE (y := sL [38, 59, 60, 39, 32, 97]) (by decide +kernel)) (av_cons (ev_strE (y := sL [97, 98, 99, 100, 101, 102, 103, 104]) (by decide +kernel)) av_nil))))) rfl (by decide)))
    (ev_take c1 hr (Nat.le_refl _) (ev_v 0) ev_int (by decide) hg) (d := dS pools[tk ds (i + 1) 5]) ?_) (finA (h _ (List.getElem_mem hlt)))
  refine atI_nat ?_
  rw [List.getElem?_map, List.getElem?_eq_getElem hlt]
  rfl
/-! ### _law_layer -/
abbrev Lay := List (Nat × Tx)
def pairD (q : Nat × Tx) : PyData := .tuple [dS [q.1], dS q.2]
def layD (L : Lay) : PyData := .tuple (L.map pairD)
def stkD (Ls : List Lay) : PyData := .tuple (Ls.map layD)
structure IsLay (pool : Tx) (most : Nat) (L : Lay) : Prop where
  len : L.length ≤ 8
  ord : (L.map (·.1)).Pairwise (· < ·)
  ok : ∀ q ∈ L, q.1 ∈ pool ∧ 1 ≤ q.2.length ∧ q.2.length ≤ most ∧ ∀ c ∈ q.2, c ∈ pool
theorem lt_one (a b : Nat) : ([a] : Tx) < [b] ↔ a < b := by
  constructor
  · intro h
    rcases List.cons_lt_cons_iff.mp h with h | ⟨_, h⟩
    · exact h
    · exact absurd h (List.not_lt_nil _)
  · intro h
    exact List.cons_lt_cons_iff.mpr (.inl h)
theorem srt_signs (l : List Nat) : ∃ zs : List Nat, srtT (l.map fun c => [c]) = zs.map (fun c => [c]) ∧ zs.Perm l ∧ zs.Pairwise (· ≤ ·) := by
  have hp := srtT_perm (l.map fun c => [c])
  have hs := srtT_sorted (l.map fun c => [c])
  have e : srtT (l.map fun c => [c]) = ((srtT (l.map fun c => [c])).map fun t => t.headD 0).map fun c => [c] := by
    rw [List.map_map]
    refine (List.map_id _).symm.trans (List.map_congr_left fun t ht => ?_)
    obtain ⟨c, _, rfl⟩ := List.mem_map.mp (hp.mem_iff.mp ht)
    rfl
  refine ⟨_, e, ?_, ?_⟩
  · have := hp.map fun t => t.headD 0
    rw [List.map_map] at this
    have e2 : ((fun t : Tx => t.headD 0) ∘ fun c => [c]) = id := rfl
    rw [e2, List.map_id] at this
    exact this
  · rw [e, List.pairwise_map] at hs
    exact hs.imp fun {a b} h => by
      rw [lt_one] at h
      omega
def tLayer : DSp := fun ks B k _ => ∃ p ds, ∃ i most : Nat, ∃ po : Tx, ks = [.val (.ref p), .dat (dS po), .dat (.int most)] ∧ B = [(p, BagO ds i)] ∧ Gd ds ∧ po ≠ [] ∧ po.Nodup ∧ po.length ≤ 1000 ∧ 0 < most ∧ most ≤ 1000 ∧ ∀ L i', IsLay po most L → k (.dat (layD L)) [(p, BagO ds i')]
abbrev nLayer : List Str := ["bag", "pool", "most", "found", "sign", "size", "text", "turn"]
theorem sc_layer : FnScope nLayer ["bag", "pool", "most"] (defScope s_layer) := ⟨rfl, rfl, rfl, by decide +kernel, rfl, by decide +kernel, by decide +kernel⟩
theorem pw_le_nodup {l : List Nat} (h : l.Pairwise (· ≤ ·)) (n : l.Nodup) : l.Pairwise (· < ·) := (h.and n).imp fun {a b} ⟨h1, h2⟩ => by omega
theorem take_lt {zs : List Nat} (h : zs.Pairwise (· < ·)) {i : Nat} (hi : i < zs.length) : ∀ c ∈ zs.take i, c < zs[i] := by
  intro c hc
  obtain ⟨j, hj, rfl⟩ := List.mem_iff_getElem.mp hc
  rw [List.length_take] at hj
  rw [List.getElem_take]
  exact List.pairwise_iff_getElem.mp h j i (by omega) hi (by omega)
theorem c_layer (D : Dfn K mg "_law_layer" s_layer) (b : Bn mg) (c1 : Cal P w K mg base "_law_take" 1 ["bag", "many"] tTake) : Cal P w K mg base "_law_layer" 2 ["bag", "pool", "most"] tLayer := by
  refine cal_of D sc_layer (fun _ _ _ _ _ _ us hl => match us, hl with | [_, _, _], _ => rfl) (fun ks B k R ⟨a, o, ns, _, _, h, _⟩ => by rw [h]; rfl) ?_
  rintro f cdv A outer s H E ks B k R hr ⟨p, ds, i, most, po, rfl, rfl, hg, hp0, hpn, hpl, hm0, hm1, h⟩
  refine sj_set 3 (ev_tup (ds := []) av_nil rfl (by simp)) ?_ sc_layer.nd
  obtain ⟨zs, ez, pz, sz⟩ := srt_signs po
  have sz := pw_le_nodup sz (pz.nodup_iff.mpr hpn)
  have lz := pz.length_eq
  have hpos : 0 < po.length := List.length_pos_iff.mpr hp0
  refine sj_for1 4 (fun i ss O => ∃ (L : Lay) (i' : Nat) (k4 k5 k6 k7 : Kd), ss = [.val (.ref p), .dat (dS po), .dat (.int most), .dat (layD L), k4, k5, k6, k7] ∧ O = [(p, BagO ds i')] ∧ IsLay po most L ∧ ∀ c ∈ L.map (·.1), c ∈ zs.take i)
    sc_layer.nd (ij_list (EN.frz (en_sortS (ev_v 1) (by omega) rfl b.sorted))) ⟨[], i, .und, .und, .und, .und, rfl, rfl, ⟨by simp, .nil, fun _ h => (nomatch h)⟩, fun _ h => (nomatch h)⟩ (fun _ _ _ _ => trivial) ?_ ?_
  · rintro j ss O hj ⟨L, i', k4, k5, k6, k7, rfl, rfl, hL, hc⟩
    rw [ez, List.length_map, List.length_map] at hj
    have ei : ((srtT (po.map fun c => [c])).map dS).getD j .none = dS [zs[j]] := by
      rw [ez, List.getD_eq_getElem?_getD, List.getElem?_map, List.getElem?_map, List.getElem?_eq_getElem hj]
      rfl
    rw [ei]
    refine sj_if (wv_and (tv_eqI hr (ev_take c1 hr (Nat.le_refl _) (ev_v 0) ev_int (by decide) hg) ev_int) (fun _ => wv_and1 (tv_lt (ev_lenT (ev_v 3) b.len) ev_int)) (fun _ => rfl)).tv (fun h1 => ?_) (fun h1 => ?_)
    · have hlen : L.length < 8 := by
        have := (Bool.and_eq_true_iff.mp h1).2
        rw [decide_eq_true_eq, List.length_map] at this
        omega
      have ht := tk_lt (ds := ds) (i := i' + 1 + 1) hm0
      refine sj_set 5 (ev_add ev_int (ev_take c1 hr (Nat.le_refl _) (ev_v 0) (ev_v 2) hm0 hg)) ?_ sc_layer.nd
      generalize htn : tk ds (i' + 1 + 1) most = t0 at ht ⊢
      refine sj_setJ 6 (ej_joinJ (Inv := fun xs O => xs.length = 1 + t0 ∧ (∀ x ∈ xs, ∃ c ∈ po, x = [c]) ∧ ∃ i'', O = [(p, BagO ds i'')]) (ev_strE (y := sL []) (by decide +kernel)) rfl (EJ.imp (EJ.frzJ (Inv := fun ds' O => ∃ xs : List Tx, ds' = xs.map dS ∧ xs.length = 1 + t0 ∧ (∀ x ∈ xs, ∃ c ∈ po, x = [c]) ∧ ∃ i'', O = [(p, BagO ds i'')]) (ej_lj (lj_inv1 7 (fun n acc O => ∃ xs : List Tx, acc = xs.map dS ∧ xs.length = n ∧ (∀ x ∈ xs, ∃ c ∈ po, x = [c]) ∧ ∃ i'', O = [(p, BagO ds i'')])
        (blkOk_by (N := nLayer) (sc := defScope s_layer) (own := [("turn", 7)]) (by decide +kernel)) sc_layer.nd (ij_range1 (ev_v 5) (by omega) (by omega) b.range) ?_ ⟨[], rfl, rfl, fun _ h => (nomatch h), _, rfl⟩ (fun _ _ _ _ => trivial) ?_ ?_) ?_ sc_layer.nd)) ?_) ?_) sc_layer.nd
      · omega
      · rintro n acc O ⟨xs, rfl, e, _⟩
        rw [List.length_map, e]
        exact Nat.le_refl _
      · rintro n acc O2 hn ⟨xs, rfl, rfl, hx, i'', rfl⟩ s H C cl fp
        have hq := tk_lt (ds := ds) (i := i'' + 1) hpos
        refine EV.to (ev_ixS (ev_v 1) (ev_take c1 hr (Nat.le_refl _) (ev_v 0) (ev_lenS (ev_v 1) (by omega) b.len) hpos hg) (c := po[tk ds (i'' + 1) po.length]) (atI_nat (List.getElem?_eq_getElem hq)) (by omega)) ⟨_, rfl, xs ++ [[po[tk ds (i'' + 1) po.length]]], by rw [List.map_append]; rfl, by simp, ?_, _, rfl⟩
        intro x hx'
        rcases List.mem_append.mp hx' with hx' | hx'
        · exact hx x hx'
        · exact ⟨_, List.getElem_mem hq, List.mem_singleton.mp hx'⟩
      · rintro q O' ⟨acc, O2, rfl, xs, rfl, e1, e2, e3⟩
        exact ⟨q, _, O2, rfl, rfl, xs, rfl, by omega, e2, e3⟩
      · rintro kk O' ⟨dl, rfl, xs, rfl, e1, e2, e3⟩
        refine ⟨_, rfl, xs, rfl, ?_, e1, e2, e3⟩
        have : ∀ ys : List Tx, (∀ x ∈ ys, ∃ c ∈ po, x = [c]) → ys.flatten.length = ys.length := fun ys hy => by
          induction ys with
          | nil => rfl
          | cons y ys ih =>
            obtain ⟨c, _, rfl⟩ := hy y List.mem_cons_self
            rw [List.flatten_cons, List.length_append, ih fun x hx => hy x (List.mem_cons_of_mem _ hx), List.length_cons]
            simp
            omega
        rw [this xs e2, e1]
        omega
      · rintro xs O' ⟨e1, e2, i'', rfl⟩
        have fl : xs.flatten.length = xs.length ∧ ∀ c ∈ xs.flatten, c ∈ po := by
          clear e1
          induction xs with
          | nil => exact ⟨rfl, fun _ h => (nomatch h)⟩
          | cons y ys ih =>
            obtain ⟨c, hc', rfl⟩ := e2 y List.mem_cons_self
            obtain ⟨i1, i2⟩ := ih fun x hx => e2 x (List.mem_cons_of_mem _ hx)
            refine ⟨by rw [List.flatten_cons, List.length_append, i1, List.length_cons]; simp; omega, fun d hd => ?_⟩
            rw [List.flatten_cons] at hd
            rcases List.mem_append.mp hd with hd | hd
            · rw [List.mem_singleton.mp hd]; exact hc'
            · exact i2 d hd
        refine sj_set 3 (k := .dat (layD (L ++ [(zs[j], xs.flatten)]))) (by
          rw [show layD (L ++ [(zs[j], xs.flatten)]) = .tuple (L.map pairD ++ [pairD (zs[j], xs.flatten)]) by simp [layD]]
          exact ev_tadd (ev_v 3) (ev_tup (ds := [pairD (zs[j], xs.flatten)]) (av_cons (ev_tup (ds := [dS [zs[j]], dS xs.flatten]) (av_cons (ev_v 4) (av_cons (ev_v 6) av_nil)) rfl (by rw [sizeLine_eq]; exact (by decide : 2 ≤ 16777216))) av_nil) rfl (by rw [sizeLine_eq]; exact (by decide : 1 ≤ 16777216))) (by rw [List.length_map]; show L.length + 1 ≤ _; omega)) ?_ sc_layer.nd
        refine sj_nil (sj_nil ?_)
        refine ⟨L ++ [(zs[j], xs.flatten)], i'', _, _, _, _, rfl, rfl, ⟨by simp; omega, ?_, ?_⟩, ?_⟩
        · rw [List.map_append, List.pairwise_append]
          refine ⟨hL.ord, by simp, fun x hx y hy => ?_⟩
          have : y = zs[j] := by simpa using hy
          rw [this]
          exact take_lt sz hj x (hc x hx)
        · intro q hq
          rcases List.mem_append.mp hq with hq | hq
          · exact hL.ok q hq
          · rw [List.mem_singleton.mp hq]
            refine ⟨pz.mem_iff.mp (List.getElem_mem hj), ?_, ?_, fl.2⟩
            · show 1 ≤ xs.flatten.length
              omega
            · show xs.flatten.length ≤ most
              omega
        · intro c hc'
          rw [List.map_append] at hc'
          rw [List.take_succ_eq_append_getElem hj]
          rcases List.mem_append.mp hc' with hc' | hc'
          · exact List.mem_append_left _ (hc c hc')
          · refine List.mem_append_right _ ?_
            simpa using hc'
    · refine sj_nil (sj_nil ?_)
      refine ⟨L, i' + 1, _, _, _, _, rfl, rfl, hL, fun c hc' => ?_⟩
      exact (List.take_sublist_take_left (Nat.le_succ j)).subset (hc c hc')
  · rintro ss O ⟨L, i', k4, k5, k6, k7, rfl, rfl, hL, hc⟩
    exact sj_ret (ev_v 3) (finA (h L i' hL))
/-! ### _law_stack -/
def tStack : DSp := fun ks B k _ => ∃ p ds, ∃ i many most : Nat, ∃ po : Tx, ks = [.val (.ref p), .dat (dS po), .dat (.int many), .dat (.int most)] ∧ B = [(p, BagO ds i)] ∧ Gd ds ∧ po ≠ [] ∧ po.Nodup ∧ po.length ≤ 1000 ∧ 0 < most ∧ most ≤ 1000 ∧ many ≤ 1000 ∧ ∀ (Ls : List Lay) (i' : Nat), Ls.length ≤ many → (∀ L ∈ Ls, IsLay po most L) → k (.dat (stkD Ls)) [(p, BagO ds i')]
abbrev nStack : List Str := ["bag", "pool", "many", "most", "turn"]
theorem sc_stack : FnScope nStack ["bag", "pool", "many", "most"] (defScope s_stack) := ⟨rfl, rfl, rfl, by decide +kernel, rfl, by decide +kernel, by decide +kernel⟩
theorem c_stack (D : Dfn K mg "_law_stack" s_stack) (b : Bn mg) (c1 : Cal P w K mg base "_law_take" 1 ["bag", "many"] tTake) (c2 : Cal P w K mg base "_law_layer" 2 ["bag", "pool", "most"] tLayer) : Cal P w K mg base "_law_stack" 3 ["bag", "pool", "many", "most"] tStack := by
  refine cal_of D sc_stack (fun _ _ _ _ _ _ us hl => match us, hl with | [_, _, _, _], _ => rfl) (fun ks B k R ⟨a, o, ns, _, _, _, h, _⟩ => by rw [h]; rfl) ?_
  rintro f cdv A outer s H E ks B k R hr ⟨p, ds, i, many, most, po, rfl, rfl, hg, hp0, hpn, hpl, hm0, hm1, hmy, h⟩
  have ht := tk_lt (ds := ds) (i := i + 1) (n := many + 1) (by omega)
  refine sj_retJ (ej_tupJ (Inv := fun ds' O => ∃ (Ls : List Lay) (i' : Nat), ds' = Ls.map layD ∧ Ls.length ≤ many ∧ (∀ L ∈ Ls, IsLay po most L) ∧ O = [(p, BagO ds i')]) (EJ.frzJ (ej_lj (lj_inv1 4 (fun n acc O => ∃ (Ls : List Lay) (i' : Nat), acc = Ls.map layD ∧ Ls.length = n ∧ (∀ L ∈ Ls, IsLay po most L) ∧ O = [(p, BagO ds i')])
    (blkOk_by (N := nStack) (sc := defScope s_stack) (own := [("turn", 4)]) (by decide +kernel)) sc_stack.nd (ij_range1 (ev_take (n := many + 1) c1 hr (by decide) (ev_v 0) (ev_intE (ev_add (ev_v 2) ev_int) (by omega)) (by omega) hg) (by omega) (by omega) b.range) ?_ ⟨[], _, rfl, rfl, fun _ h => (nomatch h), rfl⟩ (fun _ _ _ _ => trivial) ?_ ?_) ?_ sc_stack.nd)) b.tuple ?_)
  · omega
  · rintro n acc O ⟨Ls, i', rfl, e, _⟩
    rw [List.length_map, e]
    exact Nat.le_refl _
  · rintro n acc O2 hn ⟨Ls, i', rfl, rfl, hL, rfl⟩ s H C cl fp
    refine ej_calO 0 c2 hr (by decide) (av_cons (ev_v 0) (av_cons (ev_v 1) (av_cons (ev_v 3) av_nil))) rfl ⟨p, ds, i', most, po, rfl, rfl, hg, hp0, hpn, hpl, hm0, hm1, fun L i'' hLL => ?_⟩
    refine ⟨_, rfl, Ls ++ [L], i'', by rw [List.map_append]; rfl, by simp, fun M hM => ?_, rfl⟩
    rcases List.mem_append.mp hM with hM | hM
    · exact hL M hM
    · rw [List.mem_singleton.mp hM]; exact hLL
  · rintro q O' ⟨acc, O2, rfl, Ls, i', rfl, e, hL, rfl⟩
    exact ⟨q, _, _, rfl, rfl, Ls, i', rfl, by omega, hL, rfl⟩
  · rintro dl O' ⟨Ls, i', rfl, e, hL, rfl⟩
    exact finA (h Ls i' e hL)
end
end Fc
namespace Fc
open PySem PySem.Spec PyProof.Rows L2 Dl
open Evl (Ex)
abbrev s_odd : Stmt := topS 14
section
variable {P : Program} {w : World} {K : PySem.W.Frag} {mg : Str → Option Value} {base : Heap}
theorem elem_getD {l : List PyData} {i : Nat} (h : i < l.length) : l[i] = l.getD i .none := by simp [List.getD_eq_getElem?_getD, h]
/-! ### _law_odd -/
def odd0 : List PyData := [.none, .bool true, .bool false, .int (-1), .int 0, .int 1, .int 5, .int 6, .int 1000, .int 1001]
def odd1 : List PyData := [.int (10 ^ (30 : Int).toNat), dS [], dS [97], dS [98, 98], dS (List.replicate 200 [97]).flatten, dS (List.replicate 201 [97]).flatten, .tuple [], .list [], .tuple [.tuple []], .list [.tuple []]]
def odd2 : List PyData := [.tuple [.tuple [dS [97], dS [98]]], .tuple [.tuple [.tuple [dS [97], dS [98]]]], .tuple [.tuple [dS [97], dS []]], .tuple [.tuple [dS [], dS [97]]]]
def odd3 : List PyData := [.tuple [.tuple [dS [97, 98], dS [97]]], .tuple [.tuple [dS [97], dS (List.replicate 7 [98]).flatten]], .list [dS [97]]]
def odd4 : List PyData := [.tuple [.tuple [dS [98], dS [97]], .tuple [dS [97], dS [98]]], .tuple [.tuple [dS [97], dS [98]], .tuple [dS [97], dS [99]]], .tuple (List.replicate 6 [.tuple []]).flatten]
def odd5 : List PyData := [.tuple [.tuple [dS [97], .int 5]], .tuple [.tuple [dS [97], dS [98], dS [99]]], dS [97, 126, 32]]
def odds : List PyData := odd0 ++ odd1 ++ odd2 ++ odd3 ++ odd4 ++ odd5
def tOddD : DSp := fun ks B k _ => ∃ pk : List Nat, ks = [.dat (.list (dN pk))] ∧ B = [] ∧ 2 ≤ pk.length ∧ k (.dat (odds.getD ((pk.getD 0 0 + 7 * pk.getD 1 0) % odds.length) .none)) []
def tOdd : DSp := fun ks B k _ => ∃ pk : List Nat, ks = [.dat (.list (dN pk))] ∧ B = [] ∧ 2 ≤ pk.length ∧ ∀ d ∈ odds, k (.dat d) []
abbrev nOdd : List Str := ["picks", "odd"]
theorem sc_odd : FnScope nOdd ["picks"] (defScope s_odd) := ⟨rfl, rfl, rfl, by decide +kernel, rfl, by decide +kernel, by decide +kernel⟩
theorem c_oddD (D : Dfn K mg "_law_odd" s_odd) (b : Bn mg) : Cal P w K mg base "_law_odd" 1 ["picks"] tOddD := by
  refine cal_of D sc_odd (fun _ _ _ _ _ _ us hl => match us, hl with | [_], _ => rfl) (fun ks B k R ⟨a, h, _⟩ => by rw [h]; rfl) ?_
  rintro f cdv A outer s H E ks B k R hr ⟨pk, rfl, rfl, hp, h⟩
  refine sj_set 1 (k := .dat (.list odd0)) (EN.frz (en_lst (ds := [.none, .bool true, .bool false, .int (-1), .int 0, .int 1, .int 5, .int 6, .int 1000, .int 1001]) (av_cons ev_non (av_cons ev_bl (av_cons ev_bl (av_cons (ev_neg ev_int) (av_cons ev_int (av_cons ev_int (av_cons ev_int (av_cons ev_int (av_cons ev_int (av_cons ev_int av_nil)))))))))) rfl (line24 (by decide : 10 ≤ 16777216)))) ?_ sc_odd.nd
  refine sj_set 1 (k := .dat (.list (odd0 ++ odd1))) (ev_ladd (ev_v 1) (EN.frz (en_lst (ds := [.int (10 ^ (30 : Int).toNat), dS [], dS [97], dS [98, 98], dS (List.replicate 200 [97]).flatten, dS (List.replicate 201 [97]).flatten, .tuple [], .list [], .tuple [.tuple []], .list [.tuple []]]) (av_cons (ev_pow ev_int ev_int ⟨by decide, by decide, by decide⟩) (av_cons (ev_strE (y := sL []) (by decide +kernel)) (av_cons (ev_strE (y := sL [97]) (by decide +kernel)) (av_cons (ev_strE (y := sL [98, 98]) (by decide +kernel)) (av_cons (ev_smul (ev_strE (y := sL [97]) (by decide +kernel)) (n := 200) ev_int (by decide) (by decide)) (av_cons (ev_smul (ev_strE (y := sL [97]) (by decide +kernel)) (n := 201) ev_int (by decide) (by decide)) (av_cons (ev_tup (ds := []) av_nil rfl (line24 (by decide : 0 ≤ 16777216))) (av_cons (EN.frz (en_lst (ds := []) av_nil rfl (line24 (by decide : 0 ≤ 16777216)))) (av_cons (ev_tup (ds := [.tuple []]) (av_cons (ev_tup (ds := []) av_nil rfl (line24 (by decide : 0 ≤ 16777216))) av_nil) rfl (line24 (by decide : 1 ≤ 16777216))) (av_cons (EN.frz (en_lst (ds := [.tuple []]) (av_cons (ev_tup (ds := []) av_nil rfl (line24 (by decide : 0 ≤ 16777216))) av_nil) rfl (line24 (by decide : 1 ≤ 16777216)))) av_nil)))))))))) rfl (line24 (by decide : 10 ≤ 16777216)))) (by decide +kernel)) ?_ sc_odd.nd
  refine sj_set 1 (k := .dat (.list (odd0 ++ odd1 ++ odd2))) (ev_ladd (ev_v 1) (EN.frz (en_lst (ds := [.tuple [.tuple [dS [97], dS [98]]], .tuple [.tuple [.tuple [dS [97], dS [98]]]], .tuple [.tuple [dS [97], dS []]], .tuple [.tuple [dS [], dS [97]]]]) (av_cons (ev_tup (ds := [.tuple [dS [97], dS [98]]]) (av_cons (ev_tup (ds := [dS [97], dS [98]]) (av_cons (ev_strE (y := sL [97]) (by decide +kernel)) (av_cons (ev_strE (y := sL [98]) (by decide +kernel)) av_nil)) rfl (line24 (by decide : 2 ≤ 16777216))) av_nil) rfl (line24 (by decide : 1 ≤ 16777216))) (av_cons (ev_tup (ds := [.tuple [.tuple [dS [97], dS [98]]]]) (av_cons (ev_tup (ds := [.tuple [dS [97], dS [98]]]) (av_cons (ev_tup (ds := [dS [97], dS [98]]) (av_cons (ev_strE (y := sL [97]) (by decide +kernel)) (av_cons (ev_strE (y := sL [98]) (by decide +kernel)) av_nil)) rfl (line24 (by decide : 2 ≤ 16777216))) av_nil) rfl (line24 (by decide : 1 ≤ 16777216))) av_nil) rfl (line24 (by decide : 1 ≤ 16777216))) (av_cons (ev_tup (ds := [.tuple [dS [97], dS []]]) (av_cons (ev_tup (ds := [dS [97], dS []]) (av_cons (ev_strE (y := sL [97]) (by decide +kernel)) (av_cons (ev_strE (y := sL []) (by decide +kernel)) av_nil)) rfl (line24 (by decide : 2 ≤ 16777216))) av_nil) rfl (line24 (by decide : 1 ≤ 16777216))) (av_cons (ev_tup (ds := [.tuple [dS [], dS [97]]]) (av_cons (ev_tup (ds := [dS [], dS [97]]) (av_cons (ev_strE (y := sL []) (by decide +kernel)) (av_cons (ev_strE (y := sL [97]) (by decide +kernel)) av_nil)) rfl (line24 (by decide : 2 ≤ 16777216))) av_nil) rfl (line24 (by decide : 1 ≤ 16777216))) av_nil)))) rfl (line24 (by decide : 4 ≤ 16777216)))) (by decide +kernel)) ?_ sc_odd.nd
  refine sj_set 1 (k := .dat (.list (odd0 ++ odd1 ++ odd2 ++ odd3))) (ev_ladd (ev_v 1) (EN.frz (en_lst (ds := [.tuple [.tuple [dS [97, 98], dS [97]]], .tuple [.tuple [dS [97], dS (List.replicate 7 [98]).flatten]], .list [dS [97]]]) (av_cons (ev_tup (ds := [.tuple [dS [97, 98], dS [97]]]) (av_cons (ev_tup (ds := [dS [97, 98], dS [97]]) (av_cons (ev_strE (y := sL [97, 98]) (by decide +kernel)) (av_cons (ev_strE (y := sL [97]) (by decide +kernel)) av_nil)) rfl (line24 (by decide : 2 ≤ 16777216))) av_nil) rfl (line24 (by decide : 1 ≤ 16777216))) (av_cons (ev_tup (ds := [.tuple [dS [97], dS (List.replicate 7 [98]).flatten]]) (av_cons (ev_tup (ds := [dS [97], dS (List.replicate 7 [98]).flatten]) (av_cons (ev_strE (y := sL [97]) (by decide +kernel)) (av_cons (ev_smul (ev_strE (y := sL [98]) (by decide +kernel)) (n := 7) ev_int (by decide) (by decide)) av_nil)) rfl (line24 (by decide : 2 ≤ 16777216))) av_nil) rfl (line24 (by decide : 1 ≤ 16777216))) (av_cons (EN.frz (en_lst (ds := [dS [97]]) (av_cons (ev_strE (y := sL [97]) (by decide +kernel)) av_nil) rfl (line24 (by decide : 1 ≤ 16777216)))) av_nil))) rfl (line24 (by decide : 3 ≤ 16777216)))) (by decide +kernel)) ?_ sc_odd.nd
  refine sj_set 1 (k := .dat (.list (odd0 ++ odd1 ++ odd2 ++ odd3 ++ odd4))) (ev_ladd (ev_v 1) (EN.frz (en_lst (ds := [.tuple [.tuple [dS [98], dS [97]], .tuple [dS [97], dS [98]]], .tuple [.tuple [dS [97], dS [98]], .tuple [dS [97], dS [99]]], .tuple (List.replicate 6 [.tuple []]).flatten]) (av_cons (ev_tup (ds := [.tuple [dS [98], dS [97]], .tuple [dS [97], dS [98]]]) (av_cons (ev_tup (ds := [dS [98], dS [97]]) (av_cons (ev_strE (y := sL [98]) (by decide +kernel)) (av_cons (ev_strE (y := sL [97]) (by decide +kernel)) av_nil)) rfl (line24 (by decide : 2 ≤ 16777216))) (av_cons (ev_tup (ds := [dS [97], dS [98]]) (av_cons (ev_strE (y := sL [97]) (by decide +kernel)) (av_cons (ev_strE (y := sL [98]) (by decide +kernel)) av_nil)) rfl (line24 (by decide : 2 ≤ 16777216))) av_nil)) rfl (line24 (by decide : 2 ≤ 16777216))) (av_cons (ev_tup (ds := [.tuple [dS [97], dS [98]], .tuple [dS [97], dS [99]]]) (av_cons (ev_tup (ds := [dS [97], dS [98]]) (av_cons (ev_strE (y := sL [97]) (by decide +kernel)) (av_cons (ev_strE (y := sL [98]) (by decide +kernel)) av_nil)) rfl (line24 (by decide : 2 ≤ 16777216))) (av_cons (ev_tup (ds := [dS [97], dS [99]]) (av_cons (ev_strE (y := sL [97]) (by decide +kernel)) (av_cons (ev_strE (y := sL [99]) (by decide +kernel)) av_nil)) rfl (line24 (by decide : 2 ≤ 16777216))) av_nil)) rfl (line24 (by decide : 2 ≤ 16777216))) (av_cons (ev_tmul (ev_tup (ds := [.tuple []]) (av_cons (ev_tup (ds := []) av_nil rfl (line24 (by decide : 0 ≤ 16777216))) av_nil) rfl (line24 (by decide : 1 ≤ 16777216))) (n := 6) ev_int (by simp) (by decide) (by decide) (by decide : 1 ≤ 1000)) av_nil))) rfl (line24 (by decide : 3 ≤ 16777216)))) (by decide +kernel)) ?_ sc_odd.nd
  refine sj_set 1 (k := .dat (.list (odd0 ++ odd1 ++ odd2 ++ odd3 ++ odd4 ++ odd5))) (ev_ladd (ev_v 1) (EN.frz (en_lst (ds := [.tuple [.tuple [dS [97], .int 5]], .tuple [.tuple [dS [97], dS [98], dS [99]]], dS [97, 126, 32]]) (av_cons (ev_tup (ds := [.tuple [dS [97], .int 5]]) (av_cons (ev_tup (ds := [dS [97], .int 5]) (av_cons (ev_strE (y := sL [97]) (by decide +kernel)) (av_cons ev_int av_nil)) rfl (line24 (by decide : 2 ≤ 16777216))) av_nil) rfl (line24 (by decide : 1 ≤ 16777216))) (av_cons (ev_tup (ds := [.tuple [dS [97], dS [98], dS [99]]]) (av_cons (ev_tup (ds := [dS [97], dS [98], dS [99]]) (av_cons (ev_strE (y := sL [97]) (by decide +kernel)) (av_cons (ev_strE (y := sL [98]) (by decide +kernel)) (av_cons (ev_strE (y := sL [99]) (by decide +kernel)) av_nil))) rfl (line24 (by decide : 3 ≤ 16777216))) av_nil) rfl (line24 (by decide : 1 ≤ 16777216))) (av_cons (ev_strE (y := sL [97, 126, 32]) (by decide +kernel)) av_nil))) rfl (line24 (by decide : 3 ≤ 16777216)))) (by decide +kernel)) ?_ sc_odd.nd
  have get : ∀ i, i < pk.length → atI (dN pk) (i : Nat) = some (.int (pk.getD i 0 : Nat)) := fun i hi => atI_nat (by
    rw [List.getElem?_map, List.getElem?_eq_getElem hi, List.getD_eq_getElem?_getD, List.getElem?_eq_getElem hi]
    rfl)
  have hlt : (pk.getD 0 0 + 7 * pk.getD 1 0) % odds.length < odds.length := Nat.mod_lt _ (by decide +kernel)
  refine sj_ret (ev_ixL (ev_v 1) (ev_mod (ev_add (ev_ixL (ev_v 0) ev_int (get 0 (by omega))) (ev_mul ev_int (ev_ixL (ev_v 0) ev_int (get 1 (by omega))) (.inl ⟨by decide, by decide⟩))) (ev_lenL (ev_v 1) b.len) (by decide +kernel)) (d := odds[(pk.getD 0 0 + 7 * pk.getD 1 0) % odds.length]) ?_) (fin0 (by rw [elem_getD hlt]; exact h))
  have e : ((pk.getD 0 0 : Nat) + 7 * (pk.getD 1 0 : Nat) : Int) % (odds.length : Nat) = (((pk.getD 0 0 + 7 * pk.getD 1 0) % odds.length : Nat) : Int) := by rw [Int.natCast_emod, Int.natCast_add, Int.natCast_mul]; rfl
  refine Eq.trans (congrArg _ e) (atI_nat (List.getElem?_eq_getElem hlt))
theorem Cal.imp {x : Str} {n : Nat} {ps : List Str} {T T' : DSp} (C : Cal P w K mg base x n ps T) (h : ∀ ks B k R, T' ks B k R → T ks B k R) : Cal P w K mg base x n ps T' := by
  obtain ⟨f, fd, a, b, c, d⟩ := C.ex
  exact ⟨f, fd, a, b, c, d.imp fun vs H Q E ⟨G, ks, B, k, R, h1, h2, h3, h4, h5, h6⟩ => ⟨G, ks, B, k, R, h1, h2, h3, h4, h _ _ _ _ h5, h6⟩⟩
theorem c_odd (c : Cal P w K mg base "_law_odd" 1 ["picks"] tOddD) : Cal P w K mg base "_law_odd" 1 ["picks"] tOdd := Cal.imp c fun ks B k R ⟨pk, h1, h2, h3, h4⟩ => by
  have hlt : (pk.getD 0 0 + 7 * pk.getD 1 0) % odds.length < odds.length := Nat.mod_lt _ (by decide +kernel)
  refine ⟨pk, h1, h2, h3, ?_⟩
  have := h4 _ (List.getElem_mem hlt)
  rwa [elem_getD hlt] at this
end
end Fc
namespace Fc
open PySem PySem.Spec PyProof.Rows L2 Dl
open Evl (Ex)
abbrev s_signs : Stmt := topS 3
abbrev s_pair : Stmt := topS 4
abbrev s_islay : Stmt := topS 5
abbrev s_isstk : Stmt := topS 6
/-! ### values of the laws -/
def okD : Nat → Nat → PyData → Prop
  | _, _, .none => True
  | _, _, .bool _ => True
  | _, _, .int _ => True
  | _, n, .str s => s.cps.toList.length ≤ n ∧ ∀ c ∈ s.cps.toList, c < 128 ∧ c ≠ 37
  | k + 1, n, .list ds => ds.length ≤ n ∧ ∀ d ∈ ds, okD k n d
  | k + 1, n, .tuple ds => ds.length ≤ n ∧ ∀ d ∈ ds, okD k n d
  | _, _, _ => False
theorem okD_up : ∀ {k n k' n' : Nat} {d : PyData}, k ≤ k' → n ≤ n' → okD k n d → okD k' n' d
  | _, _, _, _, .none, _, _, _ => by unfold okD; trivial
  | _, _, _, _, .bool _, _, _, _ => by unfold okD; trivial
  | _, _, _, _, .int _, _, _, _ => by unfold okD; trivial
  | _, _, _, _, .str s, _, h, g => by
    unfold okD at g ⊢
    exact ⟨Nat.le_trans g.1 h, g.2⟩
  | 0, _, _, _, .list ds, _, _, g => by unfold okD at g; exact g.elim
  | 0, _, _, _, .tuple ds, _, _, g => by unfold okD at g; exact g.elim
  | k + 1, n, 0, n', .list ds, h, _, _ => by omega
  | k + 1, n, 0, n', .tuple ds, h, _, _ => by omega
  | k + 1, n, k' + 1, n', .list ds, h, h2, g => by
    unfold okD at g ⊢
    exact ⟨Nat.le_trans g.1 h2, fun d hd => okD_up (by omega) h2 (g.2 d hd)⟩
  | k + 1, n, k' + 1, n', .tuple ds, h, h2, g => by
    unfold okD at g ⊢
    exact ⟨Nat.le_trans g.1 h2, fun d hd => okD_up (by omega) h2 (g.2 d hd)⟩
  | 0, _, _, _, .dict _, _, _, g => by unfold okD at g; exact g.elim
  | k + 1, _, _, _, .dict _, _, _, g => by unfold okD at g; exact g.elim
theorem okD_tup {k n : Nat} {ds : List PyData} (h : okD k n (.tuple ds)) : ds.length ≤ n ∧ ∀ d ∈ ds, okD (k - 1) n d := by
  cases k with
  | zero => unfold okD at h; exact h.elim
  | succ k => unfold okD at h; exact h
theorem okD_lst {k n : Nat} {ds : List PyData} (h : okD k n (.list ds)) : ds.length ≤ n ∧ ∀ d ∈ ds, okD (k - 1) n d := by
  cases k with
  | zero => unfold okD at h; exact h.elim
  | succ k => unfold okD at h; exact h
theorem okD_str {k n : Nat} {l : List Nat} : okD k n (dS l) ↔ l.length ≤ n ∧ ∀ c ∈ l, c < 128 ∧ c ≠ 37 := by
  cases k <;> simp [okD]
theorem okD_mkT {k n : Nat} {ds : List PyData} (h : ds.length ≤ n) (h2 : ∀ d ∈ ds, okD k n d) : okD (k + 1) n (.tuple ds) := by unfold okD; exact ⟨h, h2⟩
theorem okD_mkL {k n : Nat} {ds : List PyData} (h : ds.length ≤ n) (h2 : ∀ d ∈ ds, okD k n d) : okD (k + 1) n (.list ds) := by unfold okD; exact ⟨h, h2⟩
mutual
theorem okD_pl : ∀ {k n : Nat} {d : PyData}, okD k n d → nod d = true ∧ d.canLay0 = true ∧ d.depth ≤ k + 1
  | _, _, .none, _ => ⟨rfl, by simp [PyData.canLay0], by simp [PyData.depth]⟩
  | _, _, .bool _, _ => ⟨rfl, by simp [PyData.canLay0], by simp [PyData.depth]⟩
  | _, _, .int _, _ => ⟨rfl, by simp [PyData.canLay0], by simp [PyData.depth]⟩
  | k, n, .str s, h => by
    refine ⟨rfl, ?_, by simp [PyData.depth]⟩
    have g : s.cps.toList.length ≤ n ∧ ∀ c ∈ s.cps.toList, c < 128 ∧ c ≠ 37 := by cases k <;> simpa [okD] using h
    simp only [PyData.canLay0]
    unfold PyData.strOk
    rw [Array.all_eq_true]
    intro i hi
    have := (g.2 s.cps[i] (by simp)).1
    simp only [decide_eq_true_eq]
    omega
  | 0, _, .list ds, h => by unfold okD at h; exact h.elim
  | 0, _, .tuple ds, h => by unfold okD at h; exact h.elim
  | k + 1, n, .list ds, h => by
    unfold okD at h
    obtain ⟨a, b, c⟩ := okDs_pl ds h.2
    exact ⟨by unfold nod; exact a, by simp only [PyData.canLay0]; exact b, by simp only [PyData.depth]; omega⟩
  | k + 1, n, .tuple ds, h => by
    unfold okD at h
    obtain ⟨a, b, c⟩ := okDs_pl ds h.2
    exact ⟨by unfold nod; exact a, by simp only [PyData.canLay0]; exact b, by simp only [PyData.depth]; omega⟩
  | 0, _, .dict _, h => by unfold okD at h; exact h.elim
  | _ + 1, _, .dict _, h => by unfold okD at h; exact h.elim
theorem okDs_pl : ∀ {k n : Nat} (ds : List PyData), (∀ d ∈ ds, okD k n d) → nods ds = true ∧ PyData.canLayAll0 ds = true ∧ PyData.depthAll ds ≤ k + 1
  | _, _, [], _ => ⟨rfl, by simp [PyData.canLayAll0], by simp [PyData.depthAll]⟩
  | k, n, d :: ds, h => by
    obtain ⟨a, b, c⟩ := okD_pl (h d List.mem_cons_self)
    obtain ⟨a', b', c'⟩ := okDs_pl ds fun e he => h e (List.mem_cons_of_mem _ he)
    exact ⟨by unfold nods; rw [a, a']; rfl, by simp only [PyData.canLayAll0]; rw [b, b']; rfl, by simp only [PyData.depthAll]; omega⟩
end
theorem ok_pl {k n : Nat} {d : PyData} (h : okD k n d) (hk : k ≤ 60) : pl d = true := by
  obtain ⟨a, b, c⟩ := okD_pl h
  unfold pl SeqAt.shaped
  rw [a, b, decide_eq_true (by omega)]
  rfl
def SGN : List Nat := [32, 33, 34, 35, 36, 38, 39, 40, 41, 42, 43, 44, 45, 46, 47, 48, 49, 50, 51, 52, 53, 54, 55, 56, 57, 58, 59, 60, 61, 62, 63, 64, 65, 66, 67, 68, 69, 70, 71, 72, 73, 74, 75, 76, 77, 78, 79, 80, 81, 82, 83, 84, 85, 86, 87, 88, 89, 90, 91, 92, 93, 94, 95, 96, 97, 98, 99, 100, 101, 102, 103, 104, 105, 106, 107, 108, 109, 110, 111, 112, 113, 114, 115, 116, 117, 118, 119, 120, 121, 122, 123, 124, 125, 126]
theorem sgn_lt : ∀ c ∈ SGN, c < 127 := by decide +kernel
theorem sgn_small : ∀ c < 127, decide (c ∈ SGN) = (decide (32 ≤ c) && decide (c ≠ 37)) := by decide +kernel
theorem sgn_iff {c : Nat} (h : c ≠ 37) : decide (c ∈ SGN) = (decide (32 ≤ c) && decide (c ≤ 126)) := by
  rcases Nat.lt_or_ge c 127 with g | g
  · rw [sgn_small c g, decide_eq_true h, Bool.and_true, decide_eq_true (by omega : c ≤ 126), Bool.and_true]
  · rw [decide_eq_false (fun z => by have := sgn_lt c z; omega), decide_eq_false (by omega : ¬ c ≤ 126), Bool.and_false]
def isSgs (d : PyData) (lo hi : Nat) : Bool := match d with
  | .str s => decide (lo ≤ s.cps.toList.length) && (decide (s.cps.toList.length ≤ hi) && s.cps.toList.all fun c => decide (c ∈ SGN))
  | _ => false
theorem isi_str {d : PyData} : isi d "str" = true ↔ ∃ l, d = dS l := by
  constructor
  · intro h
    cases d <;> simp [isi, tyN] at h
    rename_i s
    exact ⟨s.cps.toList, by cases s; rfl⟩
  · rintro ⟨l, rfl⟩
    rfl
theorem isi_tup {d : PyData} : isi d "tuple" = true ↔ ∃ ds, d = .tuple ds := by
  constructor
  · intro h
    cases d <;> simp [isi, tyN] at h
    exact ⟨_, rfl⟩
  · rintro ⟨l, rfl⟩
    rfl
theorem isi_lst {d : PyData} : isi d "list" = true ↔ ∃ ds, d = .list ds := by
  constructor
  · intro h
    cases d <;> simp [isi, tyN] at h
    exact ⟨_, rfl⟩
  · rintro ⟨l, rfl⟩
    rfl
theorem isSgs_no {d : PyData} {lo hi : Nat} (h : isi d "str" = false) : isSgs d lo hi = false := by
  cases d <;> first | rfl | (simp [isi, tyN] at h)
theorem isSgs_S {l : List Nat} {lo hi : Nat} : isSgs (dS l) lo hi = (decide (lo ≤ l.length) && (decide (l.length ≤ hi) && l.all fun c => decide (c ∈ SGN))) := by simp [isSgs]
theorem range_map {α β : Type} (l : List α) (d : α) (f : α → β) : (List.range l.length).map (fun i => f (l.getD i d)) = l.map f := by
  refine List.ext_getElem (by simp) fun i h1 h2 => ?_
  have hi : i < l.length := by simpa using h2
  simp [List.getD_eq_getElem?_getD, hi]
section
variable {P : Program} {w : World} {K : PySem.W.Frag} {mg : Str → Option Value} {base : Heap}
/-! ### of_signs -/
def tSigns : DSp := fun ks B q _ => ∃ d, ∃ k n lo hi : Nat, ks = [.dat d, .dat (.int lo), .dat (.int hi)] ∧ B = [] ∧ okD k n d ∧ n ≤ 100000 ∧ q (.dat (.bool (isSgs d lo hi))) []
abbrev nSigns : List Str := ["value", "least", "most", "sign"]
theorem sc_signs : FnScope nSigns ["value", "least", "most"] (defScope s_signs) := ⟨rfl, rfl, rfl, by decide +kernel, rfl, by decide +kernel, by decide +kernel⟩
theorem c_signs (D : Dfn K mg "of_signs" s_signs) (b : Bn mg) (gS : ∃ t, mg "SIGNS" = some (.str (sL SGN) t)) : Cal P w K mg base "of_signs" 1 ["value", "least", "most"] tSigns := by
  refine cal_of D sc_signs (fun _ _ _ _ _ _ us hl => match us, hl with | [_, _, _], _ => rfl) (fun ks B k R ⟨a, _, _, _, _, h, _⟩ => by rw [h]; rfl) ?_
  rintro f cdv A outer s H E ks B q R hr ⟨d, k, n, lo, hi, rfl, rfl, hd, hn, h⟩
  cases hs : isi d "str" with
  | false =>
    refine sj_ret (ev_and (b2 := false) (ev_isi (ev_v 0) (ev_ty rfl b.str boot_str) (by decide) b.isi) (fun h1 => by rw [hs] at h1; cases h1) (fun _ => rfl)) (fin0 ?_)
    rw [Bool.and_false, ← isSgs_no (lo := lo) (hi := hi) hs]
    exact h
  | true =>
    obtain ⟨l, rfl⟩ := isi_str.mp hs
    have hl := okD_str.mp hd
    refine sj_ret (ev_and (ev_isi (ev_v 0) (ev_ty rfl b.str boot_str) (by decide) b.isi) (fun h1 => ev_and (ev_chainI (ev_v 1) (ev_lenS (ev_v 0) (by omega) b.len) (ev_v 2)) (fun _ => ev_one (ev_all (bs := l.map fun c => decide (c ∈ SGN)) (en_lj (lj_map1 3 (fun i => .bool (decide (l.getD i 0 ∈ SGN))) (blkOk_by (N := nSigns) (sc := defScope s_signs) (own := [("sign", 3)]) (by decide +kernel)) sc_signs.nd (ij_str (ev_v 0)) (by omega)
      (fun i hi s H C cl fp => ev_inSign (ev_v 3) (ev_globS rfl gS))) sc_signs.nd rfl) ?_ rfl b.all)) (fun _ => rfl)) (fun _ => rfl)) (fin0 ?_)
    · rw [range_map l 0 (fun c => PyData.bool (decide (c ∈ SGN))), List.map_map]
      rfl
    · rw [isSgs_S] at h
      have e : (isi (dS l) "str" && ((decide ((lo : Int) ≤ l.length) && decide ((l.length : Int) ≤ hi)) && (l.map fun c => decide (c ∈ SGN)).all id)) = (decide (lo ≤ l.length) && (decide (l.length ≤ hi) && l.all fun c => decide (c ∈ SGN))) := by
        rw [hs, Bool.true_and, Bool.and_assoc, List.all_map]
        simp only [Int.ofNat_le]
        rfl
      rw [e]
      exact h
end
end Fc
namespace Fc
open PySem PySem.Spec PyProof.Rows L2 Dl
open Evl (Ex)
def pOk (q : Nat × Tx) : Prop := q.1 ∈ SGN ∧ 1 ≤ q.2.length ∧ q.2.length ≤ 6 ∧ ∀ c ∈ q.2, c ∈ SGN
def PPair (d : PyData) : Prop := ∃ q, d = pairD q ∧ pOk q
def PLay (d : PyData) : Prop := ∃ L : Lay, d = layD L ∧ L.length ≤ 8 ∧ (∀ q ∈ L, pOk q) ∧ (L.map (·.1)).Pairwise (· < ·)
def PStk (d : PyData) : Prop := ∃ ds, d = .tuple ds ∧ ds.length ≤ 5 ∧ ∀ e ∈ ds, PLay e
noncomputable def prB (d : PyData) : Bool := @decide (PPair d) (Classical.propDecidable _)
noncomputable def layB (d : PyData) : Bool := @decide (PLay d) (Classical.propDecidable _)
noncomputable def stkB (d : PyData) : Bool := @decide (PStk d) (Classical.propDecidable _)
theorem prB_iff {d : PyData} : prB d = true ↔ PPair d := by unfold prB; exact @decide_eq_true_iff _ (Classical.propDecidable _)
theorem layB_iff {d : PyData} : layB d = true ↔ PLay d := by unfold layB; exact @decide_eq_true_iff _ (Classical.propDecidable _)
theorem stkB_iff {d : PyData} : stkB d = true ↔ PStk d := by unfold stkB; exact @decide_eq_true_iff _ (Classical.propDecidable _)
theorem bool_of {b c : Bool} (h : b = true ↔ c = true) : b = c := by cases b <;> cases c <;> simp_all
theorem isSgs_one {d : PyData} : isSgs d 1 1 = true ↔ ∃ c, d = dS [c] ∧ c ∈ SGN := by
  constructor
  · intro h
    cases hs : isi d "str" with
    | false => rw [isSgs_no hs] at h; cases h
    | true =>
      obtain ⟨l, rfl⟩ := isi_str.mp hs
      rw [isSgs_S] at h
      simp only [Bool.and_eq_true, decide_eq_true_eq, List.all_eq_true] at h
      obtain ⟨h1, h2, h3⟩ := h
      obtain ⟨c, rfl⟩ := List.length_eq_one_iff.mp (by omega : l.length = 1)
      exact ⟨c, rfl, h3 c (by simp)⟩
  · rintro ⟨c, rfl, h⟩
    rw [isSgs_S]
    simp [h]
theorem isSgs_six {d : PyData} : isSgs d 1 6 = true ↔ ∃ t : Tx, d = dS t ∧ 1 ≤ t.length ∧ t.length ≤ 6 ∧ ∀ c ∈ t, c ∈ SGN := by
  constructor
  · intro h
    cases hs : isi d "str" with
    | false => rw [isSgs_no hs] at h; cases h
    | true =>
      obtain ⟨l, rfl⟩ := isi_str.mp hs
      rw [isSgs_S] at h
      simp only [Bool.and_eq_true, decide_eq_true_eq, List.all_eq_true] at h
      exact ⟨l, rfl, h⟩
  · rintro ⟨t, rfl, h1, h2, h3⟩
    rw [isSgs_S]
    simp only [Bool.and_eq_true, decide_eq_true_eq, List.all_eq_true]
    exact ⟨h1, h2, h3⟩
theorem prB_two {a b : PyData} : (isSgs a 1 1 && isSgs b 1 6) = prB (.tuple [a, b]) := by
  refine bool_of ?_
  rw [Bool.and_eq_true, isSgs_one, isSgs_six, prB_iff]
  constructor
  · rintro ⟨⟨c, rfl, hc⟩, t, rfl, h1, h2, h3⟩
    exact ⟨(c, t), rfl, hc, h1, h2, h3⟩
  · rintro ⟨⟨c, t⟩, e, hc, h1, h2, h3⟩
    simp only [pairD, PyData.tuple.injEq, List.cons.injEq, and_true] at e
    obtain ⟨rfl, rfl⟩ := e
    exact ⟨⟨c, rfl, hc⟩, t, rfl, h1, h2, h3⟩
theorem prB_tup {d : PyData} (h : isi d "tuple" = false) : prB d = false := by
  rw [← Bool.not_eq_true, prB_iff]
  rintro ⟨q, rfl, _⟩
  simp [pairD, isi, tyN] at h
theorem prB_len {ds : List PyData} (h : ds.length ≠ 2) : prB (.tuple ds) = false := by
  rw [← Bool.not_eq_true, prB_iff]
  rintro ⟨q, e, _⟩
  simp only [pairD, PyData.tuple.injEq] at e
  rw [e] at h
  exact h rfl
theorem layB_tup {d : PyData} (h : isi d "tuple" = false) : layB d = false := by
  rw [← Bool.not_eq_true, layB_iff]
  rintro ⟨q, rfl, _⟩
  simp [layD, isi, tyN] at h
theorem stkB_tup {d : PyData} (h : isi d "tuple" = false) : stkB d = false := by
  rw [← Bool.not_eq_true, stkB_iff]
  rintro ⟨q, rfl, _⟩
  simp [isi, tyN] at h
theorem layB_len {ds : List PyData} (h : 8 < ds.length) : layB (.tuple ds) = false := by
  rw [← Bool.not_eq_true, layB_iff]
  rintro ⟨L, e, hl, _⟩
  simp only [layD, PyData.tuple.injEq] at e
  rw [e, List.length_map] at h
  omega
theorem layB_pr {ds : List PyData} {d : PyData} (hd : d ∈ ds) (h : prB d = false) : layB (.tuple ds) = false := by
  rw [← Bool.not_eq_true, layB_iff]
  rintro ⟨L, e, hl, hp, _⟩
  simp only [layD, PyData.tuple.injEq] at e
  rw [e] at hd
  obtain ⟨q, hq, rfl⟩ := List.mem_map.mp hd
  rw [← Bool.not_eq_true, prB_iff] at h
  exact h ⟨q, rfl, hp q hq⟩
theorem prs_lay : ∀ {ds : List PyData}, (∀ d ∈ ds, prB d = true) → ∃ L : Lay, ds = L.map pairD ∧ ∀ q ∈ L, pOk q
  | [], _ => ⟨[], rfl, fun _ h => (nomatch h)⟩
  | d :: ds, h => by
    obtain ⟨q, rfl, hq⟩ := prB_iff.mp (h d List.mem_cons_self)
    obtain ⟨L, rfl, hL⟩ := prs_lay fun e he => h e (List.mem_cons_of_mem _ he)
    exact ⟨q :: L, rfl, fun r hr => by
      rcases List.mem_cons.mp hr with rfl | hr
      · exact hq
      · exact hL r hr⟩
theorem pairD_inj {p q : Nat × Tx} (h : pairD p = pairD q) : p = q := by
  simp only [pairD, PyData.tuple.injEq, List.cons.injEq, PyData.str.injEq, and_true] at h
  have h1 := sL_inj h.1
  have h2 := sL_inj h.2
  cases p
  cases q
  simp at h1 h2
  rw [h1, h2]
theorem layD_inj : ∀ {L M : Lay}, L.map pairD = M.map pairD → L = M
  | [], [], _ => rfl
  | [], _ :: _, h => by simp at h
  | _ :: _, [], h => by simp at h
  | p :: L, q :: M, h => by
    rw [List.map_cons, List.map_cons] at h
    obtain ⟨h1, h2⟩ := List.cons.inj h
    rw [pairD_inj h1, layD_inj h2]
theorem layB_L {L : Lay} (h8 : L.length ≤ 8) (hp : ∀ q ∈ L, pOk q) : layB (layD L) = decide ((L.map (·.1)).Pairwise (· < ·)) := by
  refine bool_of ?_
  rw [layB_iff, decide_eq_true_iff]
  constructor
  · rintro ⟨M, e, _, _, h⟩
    simp only [layD, PyData.tuple.injEq] at e
    rw [layD_inj e]
    exact h
  · exact fun h => ⟨L, rfl, h8, hp, h⟩
theorem adj_pw (l : List Nat) : (∀ i, i + 1 < l.length → l.getD i 0 < l.getD (i + 1) 0) ↔ l.Pairwise (· < ·) := by
  constructor
  · intro h
    rw [List.pairwise_iff_getElem]
    have g : ∀ m i, i + (m + 1) < l.length → l.getD i 0 < l.getD (i + (m + 1)) 0 := by
      intro m
      induction m with
      | zero => exact fun i hi => h i hi
      | succ m ih =>
        intro i hi
        have h1 := ih i (by omega)
        have h2 := h (i + (m + 1)) (by omega)
        exact Nat.lt_trans h1 h2
    intro i j hi hj hij
    have := g (j - i - 1) i (by omega)
    rw [show i + (j - i - 1 + 1) = j by omega] at this
    simpa [List.getD_eq_getElem?_getD, hi, hj] using this
  · intro h i hi
    rw [List.pairwise_iff_getElem] at h
    have := h i (i + 1) (by omega) hi (by omega)
    simpa [List.getD_eq_getElem?_getD, hi, (by omega : i < l.length)] using this
section
variable {P : Program} {w : World} {K : PySem.W.Frag} {mg : Str → Option Value} {base : Heap}
/-! ### is_pair -/
abbrev CSig (P : Program) (w : World) (K : PySem.W.Frag) (mg : Str → Option Value) (base : Heap) : Prop := Cal P w K mg base "of_signs" 1 ["value", "least", "most"] tSigns
def tPr : DSp := fun ks B q _ => ∃ d, ∃ k n : Nat, ks = [.dat d] ∧ B = [] ∧ okD k n d ∧ n ≤ 100000 ∧ q (.dat (.bool (prB d))) []
theorem sc_pair : FnScope ["value"] ["value"] (defScope s_pair) := ⟨rfl, rfl, rfl, by decide +kernel, rfl, by decide +kernel, by decide +kernel⟩
theorem c_pair (D : Dfn K mg "is_pair" s_pair) (b : Bn mg) (c1 : CSig P w K mg base) : Cal P w K mg base "is_pair" 2 ["value"] tPr := by
  refine cal_of D sc_pair (fun _ _ _ _ _ _ us hl => match us, hl with | [_], _ => rfl) (fun ks B k R ⟨a, _, _, h, _⟩ => by rw [h]; rfl) ?_
  rintro f cdv A outer s H E ks B q R hr ⟨d, k, n, rfl, rfl, hd, hn, h⟩
  cases hs : isi d "tuple" with
  | false =>
    refine sj_ifR (wv_or (b2 := true) (tv_not (tv_e (ev_isi (ev_v 0) (ev_t b.tuple boot_tuple) (by decide) b.isi))) (fun h1 => by rw [hs] at h1; cases h1) (fun _ => rfl)).tv (fun h1 => ?_) (fun h1 => by rw [hs] at h1; cases h1)
    rw [prB_tup hs] at h
    exact sj_ret ev_bl (fin0 h)
  | true =>
    obtain ⟨ds, rfl⟩ := isi_tup.mp hs
    obtain ⟨hl, he⟩ := okD_tup hd
    refine sj_ifR (wv_or (tv_not (tv_e (ev_isi (ev_v 0) (ev_t b.tuple boot_tuple) (by decide) b.isi))) (fun h1 => wv_or1 (tv_neI hr (ev_lenT (ev_v 0) b.len) ev_int)) (fun _ => rfl)).tv (fun h1 => ?_) (fun h1 => ?_)
    · rw [hs] at h1
      have : ds.length ≠ 2 := fun z => by rw [z] at h1; simp at h1
      rw [prB_len this] at h
      exact sj_ret ev_bl (fin0 h)
    · rw [hs] at h1
      have : ds.length = 2 := by
        have := h1
        simp at this
        omega
      obtain ⟨x, y, rfl⟩ : ∃ x y, ds = [x, y] := match ds, this with | [x, y], _ => ⟨x, y, rfl⟩
      refine sj_ret (ev_and (ev_cal c1 hr (Nat.le_refl _) (av_cons (ev_ixT (ev_v 0) ev_int (d := x) rfl) (av_cons ev_int (av_cons ev_int av_nil))) ⟨x, k - 1, n, 1, 1, rfl, rfl, he x (by simp), hn, rfl, rfl⟩)
        (fun _ => ev_one (ev_cal c1 hr (Nat.le_refl _) (av_cons (ev_ixT (ev_v 0) ev_int (d := y) rfl) (av_cons ev_int (av_cons ev_int av_nil))) ⟨y, k - 1, n, 1, 6, rfl, rfl, he y (by simp), hn, rfl, rfl⟩)) (fun _ => rfl)) (fin0 ?_)
      rw [prB_two]
      exact h
/-! ### is_layer -/
def tIsLay : DSp := fun ks B q _ => ∃ d, ∃ k n : Nat, ks = [.dat d] ∧ B = [] ∧ okD k n d ∧ n ≤ 100000 ∧ q (.dat (.bool (layB d))) []
abbrev nIsLay : List Str := ["value", "pair", "one", "other"]
theorem sc_islay : FnScope nIsLay ["value"] (defScope s_islay) := ⟨rfl, rfl, rfl, by decide +kernel, rfl, by decide +kernel, by decide +kernel⟩
theorem c_islay (D : Dfn K mg "is_layer" s_islay) (b : Bn mg) (c1 : Cal P w K mg base "is_pair" 2 ["value"] tPr) : Cal P w K mg base "is_layer" 3 ["value"] tIsLay := by
  refine cal_of D sc_islay (fun _ _ _ _ _ _ us hl => match us, hl with | [_], _ => rfl) (fun ks B k R ⟨a, _, _, h, _⟩ => by rw [h]; rfl) ?_
  rintro f cdv A outer s H E ks B q R hr ⟨d, k, n, rfl, rfl, hd, hn, h⟩
  cases hs : isi d "tuple" with
  | false =>
    refine sj_ifR (wv_or (b2 := true) (tv_not (tv_e (ev_isi (ev_v 0) (ev_t b.tuple boot_tuple) (by decide) b.isi))) (fun h1 => by rw [hs] at h1; cases h1) (fun _ => rfl)).tv (fun h1 => ?_) (fun h1 => by rw [hs] at h1; cases h1)
    rw [layB_tup hs] at h
    exact sj_ret ev_bl (fin0 h)
  | true =>
    obtain ⟨ds, rfl⟩ := isi_tup.mp hs
    obtain ⟨hl, he⟩ := okD_tup hd
    have hget : ∀ i, i < ds.length → okD (k - 1) n (ds.getD i .none) := fun i hi => by
      rw [List.getD_eq_getElem?_getD, List.getElem?_eq_getElem hi]
      exact he _ (List.getElem_mem hi)
    have hbs : (List.range ds.length).map (fun i => PyData.bool (prB (ds.getD i .none))) = (ds.map prB).map PyData.bool := by
      rw [range_map ds .none (fun d => PyData.bool (prB d)), List.map_map]
      rfl
    refine sj_ifR (wv_or (tv_not (tv_e (ev_isi (ev_v 0) (ev_t b.tuple boot_tuple) (by decide) b.isi))) (fun _ => wv_or (tv_gt (ev_lenT (ev_v 0) b.len) ev_int) (fun _ => wv_or1 (tv_not (tv_e (ev_all (bs := ds.map prB) (en_lj (lj_map1 1 (fun i => .bool (prB (ds.getD i .none))) (blkOk_by (N := nIsLay) (sc := defScope s_islay) (own := [("pair", 1)]) (by decide +kernel)) sc_islay.nd (ij_tup (ev_v 0)) (by omega)
      (fun i hi s H C cl fp => ev_cal c1 hr (Nat.le_refl _) (av_cons (ev_v 1) av_nil) ⟨ds.getD i .none, k - 1, n, rfl, rfl, hget i hi, hn, rfl, rfl⟩)) sc_islay.nd rfl) hbs rfl b.all)))) (fun _ => rfl)) (fun _ => rfl)).tv (fun h1 => ?_) (fun h1 => ?_)
    · rw [hs] at h1
      refine sj_ret ev_bl (fin0 ?_)
      have e : layB (.tuple ds) = false := by
        rcases Nat.lt_or_ge 8 ds.length with g | g
        · exact layB_len g
        · have h2 : ((ds.map prB).all id) = false := by
            have g' : ¬ (8 : Int) < ds.length := by omega
            simpa [g'] using h1
          rw [List.all_map] at h2
          obtain ⟨x, hx, hb⟩ := List.all_eq_false.mp h2
          exact layB_pr hx (by simpa using hb)
      rw [e] at h
      exact h
    · rw [hs] at h1
      simp only [Bool.not_true, Bool.false_or, Bool.or_eq_false_iff, decide_eq_false_iff_not, Bool.not_eq_false'] at h1
      obtain ⟨h8, hall⟩ := h1
      rw [List.all_map, List.all_eq_true] at hall
      obtain ⟨L, rfl, hL⟩ := prs_lay (fun d hd => hall d hd)
      rw [List.length_map] at h8 hl
      have hg : ∀ j, j < L.length → (L.map pairD).getD j .none = .tuple [dS [(L.map (·.1)).getD j 0], dS ((L.map (·.2)).getD j [])] := fun j hj => by
        simp [List.getD_eq_getElem?_getD, hj, pairD]
      have hcut : cut (L.map pairD) (some 1) none = (L.drop 1).map pairD := by
        unfold cut
        rw [List.length_map, show HT.sIx L.length 0 (some 1) = min 1 L.length from HT.sIx_nat L.length 0 1, HT.sIx_none]
        rw [← List.map_drop, ← List.map_take]
        congr 1
        rcases Nat.eq_zero_or_pos L.length with z | z
        · rw [List.eq_nil_of_length_eq_zero z]; rfl
        · rw [show min 1 L.length = 1 by omega, List.take_of_length_le (by rw [List.length_drop]; omega)]
      refine sj_ret (ev_all (bs := (List.range (L.length - 1)).map fun i => decide ((L.map (·.1)).getD i 0 < (L.map (·.1)).getD (i + 1) 0)) (en_lj (lj_map2 2 3 (d1 := fun i => (L.map pairD).getD i .none) (d2 := fun i => (cut (L.map pairD) (some 1) none).getD i .none)
        (fun i => .bool (decide ((L.map (·.1)).getD i 0 < (L.map (·.1)).getD (i + 1) 0))) (blkOk_by (N := nIsLay) (sc := defScope s_islay) (own := [("one", 2), ("other", 3)]) (by decide +kernel)) sc_islay.nd (ij_zipT (ev_v 0) (ev_slT (ev_v 0) (op_some ev_int) op_none) b.zip) (fun i hi => rfl) ?_ (fun i hi s H C cl fp => ?_)) sc_islay.nd rfl) ?_ rfl b.all) (fin0 ?_)
      · rw [List.length_map]; omega
      · rw [hcut, List.length_map, List.length_map, List.length_drop] at hi
        have e1 := hg i (by omega)
        have e2 : (cut (L.map pairD) (some 1) none).getD i .none = .tuple [dS [(L.map (·.1)).getD (i + 1) 0], dS ((L.map (·.2)).getD (i + 1) [])] := by
          rw [hcut, ← hg (i + 1) (by omega)]
          simp [List.getD_eq_getElem?_getD, List.map_drop]
        have e3 : decide ((L.map (·.1)).getD i 0 < (L.map (·.1)).getD (i + 1) 0) = decide (([(L.map (·.1)).getD i 0] : Tx) < [(L.map (·.1)).getD (i + 1) 0]) := by
          rw [decide_eq_decide]
          exact (lt_one _ _).symm
        rw [e1, e2, e3]
        exact ev_slt (ev_ixT (ev_v 2) ev_int rfl) (ev_ixT (ev_v 3) ev_int rfl)
      · rw [hcut, List.length_map, List.length_map, List.length_drop, List.map_map, show min L.length (L.length - 1) = L.length - 1 by omega]
        rfl
      · have e : layB (.tuple (L.map pairD)) = ((List.range (L.length - 1)).map fun i => decide ((L.map (·.1)).getD i 0 < (L.map (·.1)).getD (i + 1) 0)).all id := by
          have := layB_L (L := L) (by omega) hL
          refine this.trans (bool_of ?_)
          rw [decide_eq_true_iff, ← adj_pw, List.all_map, List.all_eq_true, List.length_map]
          constructor
          · intro h i hi
            exact decide_eq_true (h i (by have := List.mem_range.mp hi; omega))
          · intro h i hi
            exact of_decide_eq_true (h i (List.mem_range.mpr (by omega)))
        rw [e] at h
        exact h
end
end Fc
namespace Fc
open PySem PySem.Spec PyProof.Rows L2 Dl
open Evl (Ex)
abbrev s_gsigns : Stmt := topS 18
abbrev s_glayer : Stmt := topS 19
abbrev s_gstack : Stmt := topS 20
theorem eqv_nil {xs : List PyData} : PyData.eqv (.list xs) (.list []) = xs.isEmpty := by cases xs <;> simp [PyData.eqv, PyData.eqvAll]
theorem eqvAll_strs : ∀ xs ys : List Tx, PyData.eqvAll (xs.map dS) (ys.map dS) = decide (xs = ys)
  | [], [] => by simp [PyData.eqvAll]
  | [], y :: ys => by simp [PyData.eqvAll]
  | x :: xs, [] => by simp [PyData.eqvAll]
  | x :: xs, y :: ys => by
    rw [List.map_cons, List.map_cons]
    simp only [PyData.eqvAll, PyData.eqv]
    rw [eqvAll_strs xs ys]
    have : ((sL x == sL y) : Bool) = decide (x = y) := by
      rw [Bool.eq_iff_iff]
      simp
    rw [this]
    by_cases h : x = y <;> by_cases g : xs = ys <;> simp [h, g]
theorem eqv_strs (xs ys : List Tx) : PyData.eqv (.list (xs.map dS)) (.list (ys.map dS)) = decide (xs = ys) := by
  simp only [PyData.eqv]
  exact eqvAll_strs xs ys
theorem filter_range_map {α β : Type} (l : List α) (d : α) (t : α → Bool) (f : α → β) : ((List.range l.length).filter fun i => t (l.getD i d)).map (fun i => f (l.getD i d)) = (l.filter t).map f := by
  have h := range_map l d id
  have e : (List.range l.length).map (fun i => l.getD i d) = l := by simpa using h
  have : l.filter t = (((List.range l.length).filter fun i => t (l.getD i d)).map fun i => l.getD i d) := by
    conv => lhs; rw [← e]
    rw [List.filter_map]
    rfl
  rw [this, List.map_map]
  rfl
section
variable {P : Program} {w : World} {K : PySem.W.Frag} {mg : Str → Option Value} {base : Heap}
/-! ### is_stack -/
def tIsStk : DSp := fun ks B q _ => ∃ d, ∃ k n : Nat, ks = [.dat d] ∧ B = [] ∧ okD k n d ∧ n ≤ 100000 ∧ q (.dat (.bool (stkB d))) []
abbrev nIsStk : List Str := ["value", "layer"]
theorem sc_isstk : FnScope nIsStk ["value"] (defScope s_isstk) := ⟨rfl, rfl, rfl, by decide +kernel, rfl, by decide +kernel, by decide +kernel⟩
theorem stkB_T {ds : List PyData} : stkB (.tuple ds) = (decide (ds.length ≤ 5) && ds.all layB) := by
  refine bool_of ?_
  rw [stkB_iff, Bool.and_eq_true, decide_eq_true_iff, List.all_eq_true]
  constructor
  · rintro ⟨es, e, h1, h2⟩
    simp only [PyData.tuple.injEq] at e
    subst e
    exact ⟨h1, fun x hx => layB_iff.mpr (h2 x hx)⟩
  · rintro ⟨h1, h2⟩
    exact ⟨ds, rfl, h1, fun x hx => layB_iff.mp (h2 x hx)⟩
theorem c_isstk (D : Dfn K mg "is_stack" s_isstk) (b : Bn mg) (gM : ∃ t, mg "MAX_LAYERS" = some (.int 5 t)) (c1 : Cal P w K mg base "is_layer" 3 ["value"] tIsLay) : Cal P w K mg base "is_stack" 4 ["value"] tIsStk := by
  refine cal_of D sc_isstk (fun _ _ _ _ _ _ us hl => match us, hl with | [_], _ => rfl) (fun ks B k R ⟨a, _, _, h, _⟩ => by rw [h]; rfl) ?_
  rintro f cdv A outer s H E ks B q R hr ⟨d, k, n, rfl, rfl, hd, hn, h⟩
  cases hs : isi d "tuple" with
  | false =>
    refine sj_ret (ev_and (b2 := false) (ev_isi (ev_v 0) (ev_t b.tuple boot_tuple) (by decide) b.isi) (fun h1 => by rw [hs] at h1; cases h1) (fun _ => rfl)) (fin0 ?_)
    rw [Bool.and_false, ← stkB_tup hs]
    exact h
  | true =>
    obtain ⟨ds, rfl⟩ := isi_tup.mp hs
    obtain ⟨hl, he⟩ := okD_tup hd
    have hget : ∀ i, i < ds.length → okD (k - 1) n (ds.getD i .none) := fun i hi => by
      rw [List.getD_eq_getElem?_getD, List.getElem?_eq_getElem hi]
      exact he _ (List.getElem_mem hi)
    have hbs : (List.range ds.length).map (fun i => PyData.bool (layB (ds.getD i .none))) = (ds.map layB).map PyData.bool := by
      rw [range_map ds .none (fun d => PyData.bool (layB d)), List.map_map]
      rfl
    refine sj_ret (ev_and (ev_isi (ev_v 0) (ev_t b.tuple boot_tuple) (by decide) b.isi) (fun _ => ev_and (ev_le (ev_lenT (ev_v 0) b.len) (ev_globI rfl gM)) (fun _ => ev_one (ev_all (bs := ds.map layB) (en_lj (lj_map1 1 (fun i => .bool (layB (ds.getD i .none))) (blkOk_by (N := nIsStk) (sc := defScope s_isstk) (own := [("layer", 1)]) (by decide +kernel)) sc_isstk.nd (ij_tup (ev_v 0)) (by omega)
      (fun i hi s H C cl fp => ev_cal c1 hr (Nat.le_refl _) (av_cons (ev_v 1) av_nil) ⟨ds.getD i .none, k - 1, n, rfl, rfl, hget i hi, hn, rfl, rfl⟩)) sc_isstk.nd rfl) hbs rfl b.all)) (fun _ => rfl)) (fun _ => rfl)) (fin0 ?_)
    have e : (isi (.tuple ds) "tuple" && (decide ((ds.length : Int) ≤ 5) && (ds.map layB).all id)) = stkB (.tuple ds) := by
      rw [hs, Bool.true_and, stkB_T, List.all_map]
      congr 1
      exact decide_eq_decide.mpr (by omega)
    rw [e]
    exact h
/-! ### _law_signs_good -/
theorem sc_gsigns : FnScope nSigns ["value", "least", "most"] (defScope s_gsigns) := ⟨rfl, rfl, rfl, by decide +kernel, rfl, by decide +kernel, by decide +kernel⟩
abbrev CGs (P : Program) (w : World) (K : PySem.W.Frag) (mg : Str → Option Value) (base : Heap) : Prop := Cal P w K mg base "_law_signs_good" 1 ["value", "least", "most"] tSigns
theorem c_gsigns (D : Dfn K mg "_law_signs_good" s_gsigns) (b : Bn mg) : CGs P w K mg base := by
  refine cal_of D sc_gsigns (fun _ _ _ _ _ _ us hl => match us, hl with | [_, _, _], _ => rfl) (fun ks B k R ⟨a, _, _, _, _, h, _⟩ => by rw [h]; rfl) ?_
  rintro f cdv A outer s H E ks B q R hr ⟨d, k, n, lo, hi, rfl, rfl, hd, hn, h⟩
  cases hs : isi d "str" with
  | false =>
    refine sj_ifR (wv_or (b2 := true) (tv_not (tv_e (ev_isi (ev_v 0) (ev_t b.str boot_str) (by decide) b.isi))) (fun h1 => by rw [hs] at h1; cases h1) (fun _ => rfl)).tv (fun h1 => ?_) (fun h1 => by rw [hs] at h1; cases h1)
    rw [isSgs_no hs] at h
    exact sj_ret ev_bl (fin0 h)
  | true =>
    obtain ⟨l, rfl⟩ := isi_str.mp hs
    have hl := okD_str.mp hd
    refine sj_ifR (wv_or (tv_not (tv_e (ev_isi (ev_v 0) (ev_t b.str boot_str) (by decide) b.isi))) (fun _ => wv_or1 (tv_not (tv_chainI (ev_v 1) (ev_lenS (ev_v 0) (by omega) b.len) (ev_v 2)))) (fun _ => rfl)).tv (fun h1 => ?_) (fun h1 => ?_)
    · rw [hs] at h1
      have e : isSgs (dS l) lo hi = false := by
        rw [isSgs_S]
        by_cases c1 : lo ≤ l.length
        · by_cases c2 : l.length ≤ hi
          · simp [c1, c2] at h1
          · simp [c2]
        · simp [c1]
      rw [e] at h
      exact sj_ret ev_bl (fin0 h)
    · rw [hs] at h1
      have h2 : lo ≤ l.length ∧ l.length ≤ hi := by
        simp at h1
        omega
      have tests : ∀ i, i < l.length → (!(!decide (([l.getD i 0] : Tx) < [32]) && !decide (([126] : Tx) < [l.getD i 0]))) = (fun c => !decide (c ∈ SGN)) (l.getD i 0) := fun i hi => by
        have hc : l.getD i 0 ≠ 37 := by
          rw [List.getD_eq_getElem?_getD, List.getElem?_eq_getElem hi]
          exact (hl.2 _ (List.getElem_mem hi)).2
        show _ = !decide (l.getD i 0 ∈ SGN)
        rw [sgn_iff hc]
        have e1 : decide (([l.getD i 0] : Tx) < [32]) = decide (l.getD i 0 < 32) := decide_eq_decide.mpr (lt_one _ _)
        have e2 : decide (([126] : Tx) < [l.getD i 0]) = decide (126 < l.getD i 0) := decide_eq_decide.mpr (lt_one _ _)
        have e3 : decide (32 ≤ l.getD i 0) = !decide (l.getD i 0 < 32) := by rw [← decide_not]; exact decide_eq_decide.mpr (by omega)
        have e4 : decide (l.getD i 0 ≤ 126) = !decide (126 < l.getD i 0) := by rw [← decide_not]; exact decide_eq_decide.mpr (by omega)
        rw [e1, e2, e3, e4]
      refine sj_ret (ev_eq hr (EN.frz (en_lj (lj_mapIf1 3 (fun i => (fun c => !decide (c ∈ SGN)) (l.getD i 0)) (fun i => (fun c => dS [c]) (l.getD i 0)) (blkOk_by (N := nSigns) (sc := defScope s_gsigns) (own := [("sign", 3)]) (by decide +kernel)) sc_gsigns.nd (ij_str (ev_v 0)) (by omega)
        (fun i hi s H C cl fp => by
          rw [← tests i hi]
          exact tv_not (tv_chainS (ev_strE (y := sL [32]) (by decide +kernel)) (ev_v 3) (ev_strE (y := sL [126]) (by decide +kernel))))
        (fun i hi _ s H C cl fp => ev_v 3)) sc_gsigns.nd rfl)) (EN.frz (en_lst (ds := []) av_nil rfl (by simp))) ?_ rfl eqv_nil) (fin0 ?_)
      · rw [filter_range_map l 0 (fun c => !decide (c ∈ SGN)) (fun c => dS [c])]
        refine ok_pl (k := 1) (n := 100000) (okD_mkL (by rw [List.length_map]; have := List.length_filter_le (fun c => !decide (c ∈ SGN)) l; omega) fun e he => ?_) (by decide)
        obtain ⟨c, hc, rfl⟩ := List.mem_map.mp he
        exact okD_str.mpr ⟨by simp, fun x hx => by rw [List.mem_singleton.mp hx]; exact hl.2 c (List.mem_filter.mp hc).1⟩
      · rw [filter_range_map l 0 (fun c => !decide (c ∈ SGN)) (fun c => dS [c])]
        have e : ((l.filter fun c => !decide (c ∈ SGN)).map fun c => dS [c]).isEmpty = isSgs (dS l) lo hi := by
          rw [isSgs_S, decide_eq_true h2.1, decide_eq_true h2.2, Bool.true_and, Bool.true_and]
          refine bool_of ?_
          rw [List.isEmpty_iff, List.map_eq_nil_iff, List.filter_eq_nil_iff, List.all_eq_true]
          simp
        rw [e]
        exact h
/-! ### _law_good_layer -/
abbrev nGl : List Str := ["value", "pair", "signs"]
theorem sc_glayer : FnScope nGl ["value"] (defScope s_glayer) := ⟨rfl, rfl, rfl, by decide +kernel, rfl, by decide +kernel, by decide +kernel⟩
theorem layB_signs {L : Lay} (h8 : L.length ≤ 8) (hp : ∀ q ∈ L, pOk q) : decide ((L.map fun q => ([q.1] : Tx)) = setT (L.map fun q => [q.1])) = layB (layD L) := by
  rw [layB_L h8 hp, decide_eq_decide]
  have e : (L.map fun q => ([q.1] : Tx)).Pairwise (· < ·) ↔ (L.map (·.1)).Pairwise (· < ·) := by
    rw [List.pairwise_map, List.pairwise_map]
    constructor <;> intro h <;> refine h.imp fun {a b} h => ?_
    · exact (lt_one _ _).mp h
    · exact (lt_one _ _).mpr h
  rw [← e]
  constructor
  · intro h
    rw [h]
    exact setT_sorted _
  · intro h
    exact lt_uniq h (setT_sorted _) fun z => (setT_mem _ z).symm
theorem c_glayer (D : Dfn K mg "_law_good_layer" s_glayer) (b : Bn mg) (c1 : CGs P w K mg base) : Cal P w K mg base "_law_good_layer" 2 ["value"] tIsLay := by
  refine cal_of D sc_glayer (fun _ _ _ _ _ _ us hl => match us, hl with | [_], _ => rfl) (fun ks B k R ⟨a, _, _, h, _⟩ => by rw [h]; rfl) ?_
  rintro f cdv A outer s H E ks B q R hr ⟨d, k, n, rfl, rfl, hd, hn, h⟩
  cases hs : isi d "tuple" with
  | false =>
    refine sj_ifR (wv_or (b2 := true) (tv_not (tv_e (ev_isi (ev_v 0) (ev_t b.tuple boot_tuple) (by decide) b.isi))) (fun h1 => by rw [hs] at h1; cases h1) (fun _ => rfl)).tv (fun h1 => ?_) (fun h1 => by rw [hs] at h1; cases h1)
    rw [layB_tup hs] at h
    exact sj_ret ev_bl (fin0 h)
  | true =>
    obtain ⟨ds, rfl⟩ := isi_tup.mp hs
    obtain ⟨hl, he⟩ := okD_tup hd
    refine sj_ifR (wv_or (tv_not (tv_e (ev_isi (ev_v 0) (ev_t b.tuple boot_tuple) (by decide) b.isi))) (fun _ => wv_or1 (tv_gt (ev_lenT (ev_v 0) b.len) ev_int)) (fun _ => rfl)).tv (fun h1 => ?_) (fun h1 => ?_)
    · rw [hs] at h1
      have : 8 < ds.length := by
        simp at h1
        omega
      rw [layB_len this] at h
      exact sj_ret ev_bl (fin0 h)
    · rw [hs] at h1
      have h8 : ds.length ≤ 8 := by
        simp at h1
        omega
      refine sj_for1 1 (fun i ss O => ∃ k1, ss = [.dat (.tuple ds), k1, .und] ∧ O = [] ∧ ∀ e ∈ ds.take i, prB e = true) sc_glayer.nd (ij_tup (ev_v 0)) ⟨.und, rfl, rfl, fun _ h => by simp at h⟩ (fun _ _ _ _ => trivial) ?_ ?_
      · rintro i ss O hi ⟨k1, rfl, rfl, hpr⟩
        have ei : ds.getD i .none = ds[i] := by simp [List.getD_eq_getElem?_getD, hi]
        have hx := he _ (List.getElem_mem hi)
        rw [ei]
        have bad : prB ds[i] = false → fin q (.dat (.bool false)) [] := fun hb => by
          have := layB_pr (List.getElem_mem hi) hb
          rw [this] at h
          exact fin0 h
        generalize hxi : ds[i] = x at hx bad ⊢
        cases hs2 : isi x "tuple" with
        | false =>
          refine sj_ifR (wv_or (b2 := true) (tv_not (tv_e (ev_isi (ev_v 1) (ev_t b.tuple boot_tuple) (by decide) b.isi))) (fun h1 => by rw [hs2] at h1; cases h1) (fun _ => rfl)).tv (fun h1 => ?_) (fun h1 => by rw [hs2] at h1; cases h1)
          exact sj_ret ev_bl (bad (prB_tup hs2))
        | true =>
          obtain ⟨es, rfl⟩ := isi_tup.mp hs2
          obtain ⟨hl2, he2⟩ := okD_tup hx
          refine sj_ifR (wv_or (tv_not (tv_e (ev_isi (ev_v 1) (ev_t b.tuple boot_tuple) (by decide) b.isi))) (fun h1 => wv_or1 (tv_neI hr (ev_lenT (ev_v 1) b.len) ev_int)) (fun _ => rfl)).tv (fun h1 => ?_) (fun h1 => ?_)
          · rw [hs2] at h1
            have : es.length ≠ 2 := fun z => by rw [z] at h1; simp at h1
            exact sj_ret ev_bl (bad (prB_len this))
          · rw [hs2] at h1
            have : es.length = 2 := by
              have := h1
              simp at this
              omega
            obtain ⟨x, y, rfl⟩ : ∃ x y, es = [x, y] := match es, this with | [x, y], _ => ⟨x, y, rfl⟩
            refine sj_ifR (wv_or (tv_not (tv_e (ev_cal c1 hr (Nat.le_refl _) (av_cons (ev_ixT (ev_v 1) ev_int (d := x) rfl) (av_cons ev_int (av_cons ev_int av_nil))) ⟨x, k - 1 - 1, n, 1, 1, rfl, rfl, he2 x (by simp), hn, rfl, rfl⟩)))
              (fun _ => wv_or1 (tv_not (tv_e (ev_cal c1 hr (Nat.le_refl _) (av_cons (ev_ixT (ev_v 1) ev_int (d := y) rfl) (av_cons ev_int (av_cons ev_int av_nil))) ⟨y, k - 1 - 1, n, 1, 6, rfl, rfl, he2 y (by simp), hn, rfl, rfl⟩)))) (fun _ => rfl)).tv (fun h2 => ?_) (fun h2 => ?_)
            · have e : prB (.tuple [x, y]) = false := by
                rw [← prB_two]
                cases g1 : isSgs x 1 1 <;> cases g2 : isSgs y 1 6 <;> simp [g1, g2] at h2 ⊢
              exact sj_ret ev_bl (bad e)
            · have e : prB (.tuple [x, y]) = true := by
                rw [← prB_two]
                cases g1 : isSgs x 1 1 <;> cases g2 : isSgs y 1 6 <;> simp [g1, g2] at h2 ⊢
              refine sj_nil ⟨_, rfl, rfl, fun z hz => ?_⟩
              rw [List.take_succ_eq_append_getElem hi] at hz
              rcases List.mem_append.mp hz with hz | hz
              · exact hpr z hz
              · rw [List.mem_singleton.mp hz, hxi]
                exact e
      · rintro ss O ⟨k1, rfl, rfl, hpr⟩
        rw [List.take_length] at hpr
        obtain ⟨L, rfl, hL⟩ := prs_lay hpr
        rw [List.length_map] at h8
        have hit : ∀ i, i < L.length → (L.map pairD).getD i .none = .tuple [dS [(L.getD i (0, [])).1], dS (L.getD i (0, [])).2] := fun i hi => by
          simp [List.getD_eq_getElem?_getD, hi, pairD]
        refine sj_lc 2 (lj_map1 1 (fun i => (fun q : Nat × Tx => dS [q.1]) (L.getD i (0, []))) (blkOk_by (N := nGl) (sc := defScope s_glayer) (own := [("pair", 1)]) (by decide +kernel)) sc_glayer.nd (ij_tup (ev_v 0)) (by rw [List.length_map]; omega)
          (fun i hi s H C cl fp => by
            rw [List.length_map] at hi
            rw [hit i hi]
            exact ev_ixT (ev_v 1) ev_int rfl)) ?_ sc_glayer.nd rfl rfl rfl (sw_true rfl rfl rfl (by decide +kernel))
        rintro p O' rfl
        have eL : ((List.range (L.map pairD).length).map fun i => (fun q : Nat × Tx => dS [q.1]) (L.getD i (0, []))) = (L.map fun q => ([q.1] : Tx)).map dS := by
          rw [List.length_map, range_map L (0, []) (fun q : Nat × Tx => dS [q.1]), List.map_map]
          rfl
        rw [eL]
        refine sj_frzL 2 0 rfl rfl ?_
        have hp : ∀ xs : List Tx, (∀ x ∈ xs, ∃ q ∈ L, x = [q.1]) → xs.length ≤ 8 → pl (.list (xs.map dS)) = true := fun xs hx hlen => by
          refine ok_pl (k := 1) (n := 100) (okD_mkL (by rw [List.length_map]; omega) fun e he => ?_) (by decide)
          obtain ⟨t, ht, rfl⟩ := List.mem_map.mp he
          obtain ⟨q, hq, rfl⟩ := hx t ht
          have h1 := (hL q hq).1
          have h2 := sgn_lt q.1 h1
          refine okD_str.mpr ⟨by simp, fun c hc => ?_⟩
          rw [List.mem_singleton.mp hc]
          refine ⟨by omega, fun z => ?_⟩
          rw [z] at h1
          exact absurd h1 (by decide +kernel)
        refine sj_ret (ev_eq hr (ev_v 2) (EN.frz (en_sortSetL (ev_v 2) rfl (by rw [List.length_map]; omega) rfl b.sorted b.set)) (hp _ (fun x hx => ?_) (by rw [List.length_map]; omega)) (hp _ (fun x hx => ?_) ?_) (eqv_strs _ _)) (fin0 ?_)
        · obtain ⟨q, hq, rfl⟩ := List.mem_map.mp hx
          exact ⟨q, hq, rfl⟩
        · obtain ⟨q, hq, rfl⟩ := List.mem_map.mp ((setT_mem _ x).mp hx)
          exact ⟨q, hq, rfl⟩
        · have := setT_len (L.map fun q => ([q.1] : Tx))
          rw [List.length_map] at this
          omega
        · rw [layB_signs h8 hL]
          exact h
/-! ### _law_good_stack -/
theorem sc_gstack : FnScope nIsStk ["value"] (defScope s_gstack) := ⟨rfl, rfl, rfl, by decide +kernel, rfl, by decide +kernel, by decide +kernel⟩
def tGstk : DSp := fun ks B q R => ∃ d, ∃ k n : Nat, ks = [.dat d] ∧ B = [] ∧ okD k n d ∧ n ≤ 100000 ∧ k ≤ 50 ∧ q (.dat (.bool (stkB d))) []
theorem c_gstack (D : Dfn K mg "_law_good_stack" s_gstack) (b : Bn mg) (c1 : Cal P w K mg base "_law_good_layer" 2 ["value"] tIsLay) : Cal P w K mg base "_law_good_stack" 3 ["value"] tGstk := by
  refine cal_of D sc_gstack (fun _ _ _ _ _ _ us hl => match us, hl with | [_], _ => rfl) (fun ks B k R ⟨a, _, _, h, _⟩ => by rw [h]; rfl) ?_
  rintro f cdv A outer s H E ks B q R hr ⟨d, k, n, rfl, rfl, hd, hn, hk, h⟩
  cases hs : isi d "tuple" with
  | false =>
    refine sj_ifR (wv_or (b2 := true) (tv_not (tv_e (ev_isi (ev_v 0) (ev_t b.tuple boot_tuple) (by decide) b.isi))) (fun h1 => by rw [hs] at h1; cases h1) (fun _ => rfl)).tv (fun h1 => ?_) (fun h1 => by rw [hs] at h1; cases h1)
    rw [stkB_tup hs] at h
    exact sj_ret ev_bl (fin0 h)
  | true =>
    obtain ⟨ds, rfl⟩ := isi_tup.mp hs
    obtain ⟨hl, he⟩ := okD_tup hd
    have hget : ∀ i, i < ds.length → okD (k - 1) n (ds.getD i .none) := fun i hi => by
      rw [List.getD_eq_getElem?_getD, List.getElem?_eq_getElem hi]
      exact he _ (List.getElem_mem hi)
    refine sj_ifR (wv_or (tv_not (tv_e (ev_isi (ev_v 0) (ev_t b.tuple boot_tuple) (by decide) b.isi))) (fun _ => wv_or1 (tv_gt (ev_lenT (ev_v 0) b.len) ev_int)) (fun _ => rfl)).tv (fun h1 => ?_) (fun h1 => ?_)
    · rw [hs] at h1
      have : ¬ ds.length ≤ 5 := by
        simp at h1
        omega
      rw [stkB_T, decide_eq_false this, Bool.false_and] at h
      exact sj_ret ev_bl (fin0 h)
    · rw [hs] at h1
      have h5 : ds.length ≤ 5 := by
        simp at h1
        omega
      refine sj_ret (ev_eq hr (EN.frz (en_lj (lj_mapIf1 1 (fun i => (fun d => !layB d) (ds.getD i .none)) (fun i => (fun d => d) (ds.getD i .none)) (blkOk_by (N := nIsStk) (sc := defScope s_gstack) (own := [("layer", 1)]) (by decide +kernel)) sc_gstack.nd (ij_tup (ev_v 0)) (by omega)
        (fun i hi s H C cl fp => tv_not (tv_e (ev_cal c1 hr (Nat.le_refl _) (av_cons (ev_v 1) av_nil) ⟨ds.getD i .none, k - 1, n, rfl, rfl, hget i hi, hn, rfl, rfl⟩)))
        (fun i hi _ s H C cl fp => ev_v 1)) sc_gstack.nd rfl)) (EN.frz (en_lst (ds := []) av_nil rfl (by simp))) ?_ rfl eqv_nil) (fin0 ?_)
      · rw [filter_range_map ds .none (fun d => !layB d) (fun d => d)]
        refine ok_pl (k := k - 1 + 1) (n := n) (okD_mkL (by rw [List.length_map]; have := List.length_filter_le (fun d => !layB d) ds; omega) fun e he' => ?_) (by omega)
        obtain ⟨c, hc, rfl⟩ := List.mem_map.mp he'
        exact he c (List.mem_filter.mp hc).1
      · rw [filter_range_map ds .none (fun d => !layB d) (fun d => d)]
        have e : ((ds.filter fun d => !layB d).map fun d => d).isEmpty = stkB (.tuple ds) := by
          rw [stkB_T, decide_eq_true h5, Bool.true_and]
          refine bool_of ?_
          rw [List.isEmpty_iff, List.map_eq_nil_iff, List.filter_eq_nil_iff, List.all_eq_true]
          simp
        rw [e]
        exact h
end
end Fc
namespace Dl
open PySem PySem.Spec PyProof.Rows L2
open Evl (Ex)
theorem cut_from {α : Type} (xs : List α) (m : Nat) : cut xs (some (m : Int)) none = xs.drop m := by
  unfold cut
  rw [show HT.sIx xs.length 0 (some (m : Int)) = min m xs.length from HT.sIx_nat xs.length 0 m, HT.sIx_none]
  rcases Nat.le_total m xs.length with h | h
  · rw [Nat.min_eq_left h, List.take_of_length_le (by rw [List.length_drop]; omega)]
  · rw [Nat.min_eq_right h, List.drop_eq_nil_of_le (Nat.le_refl _), List.drop_eq_nil_of_le h, List.take_nil]
theorem cut_to {α : Type} (xs : List α) (m : Nat) : cut xs none (some (m : Int)) = xs.take m := by
  unfold cut
  rw [show HT.sIx xs.length xs.length (some (m : Int)) = min m xs.length from HT.sIx_nat xs.length xs.length m, HT.sIx_none, List.drop_zero, Nat.sub_zero]
  rcases Nat.le_total m xs.length with h | h
  · rw [Nat.min_eq_left h]
  · rw [Nat.min_eq_right h, List.take_length, List.take_of_length_le h]
section
variable {X : Cx} {R : Addr → Prop} {e a b c : Expr} {es : List Expr} {ss : List Kd} {O O1 O2 O3 O' : Store} {k ka kb : Kd} {ks : List Kd} {Φ Ψ : Kd → Store → Prop} {pos : Pos} {st : Stmt} {sts rest body : List Stmt} {D D' : DE}
theorem oj_ladd {d1 d2 : List PyData} (hl : d1.length + d2.length ≤ 16777216) (h : Φ (.dat (.list (d1 ++ d2))) O) : OJ X rCat (.dat (.list d1)) (.dat (.list d2)) O Φ := fun G0 H0 G H σ ss x y S h1 h2 Q q => by
  obtain ⟨p1, xs, e1, g1, r1⟩ := dp_lst h1
  obtain ⟨p2, ys, e2, g2, r2⟩ := dp_lst h2
  refine ⟨p1, p2, xs, ys, e1, e2, S.gh _ _ g1, S.gh _ _ g2, by rw [dps_len r1, dps_len r2]; exact line24 hl, fun p hp => ?_⟩
  have eg : Ex G (upd G p (.lst (xs ++ ys))) := Ex.new (S.free hp)
  exact q.d (S.data hp (.lst (xs ++ ys))) eg (DP.lst upd_same (dpAll_ex eg (dpAll_app r1 r2))) h
theorem ev_lenD {x : Str} {p : Pos} {d : PyData} {ds : List PyData} (ha : EV X R e ss O (.dat d) O1) (hd : d = .list ds ∨ d = .tuple ds) (hm : X.mg "len" = none) (hx : x = "len" := by rfl) (hg : Gl X x := by rfl) (he : starEach [e] X.env = (false, eval e X.env) :: starEach [] X.env := by exact star_ne rfl) : EV X R (.Call (.Name x p) [e] [] pos) ss O (.dat (.int ds.length)) O1 := by
  rcases hd with rfl | rfl
  · exact ev_lenL ha hm hx hg he
  · exact ev_lenT ha hm hx hg he
theorem sj_setIxJ {ppos : Pos} {f : Expr} (hv : EJ X R e ss O fun k O1 => ∃ (d : PyData) (j : Nat) (p : Addr) (ds : List PyData) (i : Int) (n : Nat), k = .dat d ∧ EV X R a ss O1 (.val (.ref p)) O1 ∧ EV X R f ss O1 (.dat (.int i)) O1 ∧ O1[j]? = some (p, .ol ds) ∧ ixN ds.length i = some n ∧ SJ X R rest ss (O1.set j (p, .ol (ds.set n d))) D)
    (hs : swapsWithSole [.Subscript a f ppos] e pos.line X.env = pure false := by rfl) (hw : swappedStores [.Subscript a f ppos] e X.env = pure none := by rfl) (h1 : (assignEach [.Subscript a f ppos] X.env).map (·.2) = [assign (.Subscript a f ppos) X.env] := by rfl)
    (hg : ∀ v, assign (.Subscript a f ppos) X.env v = (do
      let ov ← holding [v] (eval a X.env)
      let iv ← holding [v, ov] (eval f X.env)
      standAt ppos
      holding [v, ov, iv] (setItem ov iv v)
      release [v, ov, iv] []) := by intro _; rfl) : SJ X R (.Assign [.Subscript a f ppos] e pos :: rest) ss O D := sj_cons fun G0 H0 G H σ S L E s =>
  wS_of (ps_asg peW (pg_sub peW peW L2.set_list hg) hs hw h1) (hv G0 H0 G H σ S L _ fun G1 H1 v k1 O4 S1 e1 r1 ⟨d, j, p, ds, i, n, h1, ha, hi, hj, hx, h⟩ => by
    subst h1
    refine ha G0 H0 G1 H1 σ S1 L _ fun G2 H2 v2 k2 O5 S2 e2 r2 ⟨h3, h4⟩ => ?_
    subst h3 h4
    refine hi G0 H0 G2 H2 σ S2 L _ fun G3 H3 v3 k3 O6 S3 e3 r3 ⟨h5, h6⟩ => ?_
    subst h5 h6
    have : v2 = .ref p := r2
    subst this
    obtain ⟨⟨vs, hv, rv⟩, _, _⟩ := S3.ob _ (List.mem_of_getElem? hj)
    refine ⟨p, vs, i, n, rfl, dp_int r3, hv, by rw [dps_len rv]; exact hx, ?_⟩
    refine s.nx G3 _ σ ss _ (sta_olput S3 hj ?_) ((e1.trans e2).trans e3) h
    exact dpAll_of (paired_set (dp_ex (e2.trans e3) r1) n (dpAll_to rv)))
end
end Dl
namespace Fc
open PySem PySem.Spec PyProof.Rows L2 Dl
open Evl (Ex)
abbrev s_spoilt : Stmt := topS 10
def okB : Nat → Nat → PyData → Bool
  | _, _, .none => true
  | _, _, .bool _ => true
  | _, _, .int _ => true
  | _, n, .str s => decide (s.cps.toList.length ≤ n) && s.cps.toList.all fun c => decide (c < 128) && decide (c ≠ 37)
  | k + 1, n, .list ds => decide (ds.length ≤ n) && ds.all (okB k n)
  | k + 1, n, .tuple ds => decide (ds.length ≤ n) && ds.all (okB k n)
  | _, _, _ => false
theorem okB_ok : ∀ {k n : Nat} {d : PyData}, okB k n d = true → okD k n d
  | _, _, .none, _ => by unfold okD; trivial
  | _, _, .bool _, _ => by unfold okD; trivial
  | _, _, .int _, _ => by unfold okD; trivial
  | k, n, .str s, h => by
    have h2 : (decide (s.cps.toList.length ≤ n) && s.cps.toList.all fun c => decide (c < 128) && decide (c ≠ 37)) = true := by cases k <;> (unfold okB at h; exact h)
    simp only [Bool.and_eq_true, decide_eq_true_eq, List.all_eq_true] at h2
    cases k <;> (unfold okD; exact h2)
  | 0, _, .list ds, h => by unfold okB at h; cases h
  | 0, _, .tuple ds, h => by unfold okB at h; cases h
  | k + 1, n, .list ds, h => by
    unfold okB at h
    simp only [Bool.and_eq_true, decide_eq_true_eq, List.all_eq_true] at h
    exact okD_mkL h.1 fun d hd => okB_ok (h.2 d hd)
  | k + 1, n, .tuple ds, h => by
    unfold okB at h
    simp only [Bool.and_eq_true, decide_eq_true_eq, List.all_eq_true] at h
    exact okD_mkT h.1 fun d hd => okB_ok (h.2 d hd)
  | 0, _, .dict _, h => by unfold okB at h; cases h
  | _ + 1, _, .dict _, h => by unfold okB at h; cases h
theorem odds_ok : ∀ d ∈ odds, okD 4 201 d := by
  have h : ∀ d ∈ odds, okB 4 201 d = true := by decide +kernel
  exact fun d hd => okB_ok (h d hd)
section
variable {P : Program} {w : World} {K : PySem.W.Frag} {mg : Str → Option Value} {base : Heap}
def tSp (k : Nat) : DSp := fun ks B q _ => ∃ d, ∃ n : Nat, ∃ pk : List Nat, ks = [.dat d, .dat (.list (dN pk))] ∧ B = [] ∧ okD k n d ∧ 201 ≤ n ∧ n ≤ 100000 ∧ 4 * k + 12 ≤ pk.length ∧ ∀ d', okD (k + 5) (n + 1) d' → q (.dat d') []
abbrev nSp : List Str := ["thing", "picks", "pieces", "at", "turn_by"]
theorem sc_sp : FnScope nSp ["thing", "picks"] (defScope s_spoilt) := ⟨rfl, rfl, rfl, by decide +kernel, rfl, by decide +kernel, by decide +kernel⟩
theorem dN_get {pk : List Nat} (i : Nat) (hi : i < pk.length) : atI (dN pk) (i : Nat) = some (.int (pk.getD i 0 : Nat)) := atI_nat (by
  rw [List.getElem?_map, List.getElem?_eq_getElem hi, List.getD_eq_getElem?_getD, List.getElem?_eq_getElem hi]
  rfl)
theorem dN_drop (pk : List Nat) (m : Nat) : cut (dN pk) (some (m : Int)) none = dN (pk.drop m) := by rw [cut_from]; exact List.map_drop.symm
theorem c_spoilt0 (D : Dfn K mg "_law_spoilt" s_spoilt) (b : Bn mg) (c1 : Cal P w K mg base "_law_odd" 1 ["picks"] tOdd) (k : Nat) (hrec : ∀ k', k = k' + 1 → Cal P w K mg base "_law_spoilt" (k' + 2) ["thing", "picks"] (tSp k')) : Cal P w K mg base "_law_spoilt" (k + 2) ["thing", "picks"] (tSp k) := by
  refine cal_of (n := k + 1) D sc_sp (fun _ _ _ _ _ _ us hl => match us, hl with | [_, _], _ => rfl) (fun ks B k R ⟨a, _, _, h, _⟩ => by rw [h]; rfl) ?_
  rintro f cdv A outer s H E ks B q R hr ⟨d, n, pk, rfl, rfl, hd, hn, hn2, hpk, h⟩
  have odd : ∀ {ss : List Kd} {O : Store} {m : Nat} (hm : m + 2 ≤ pk.length) {e : Expr} {pos p : Pos} {Φ : Kd → Store → Prop}, EV (cxOf (L2.CX P w) P w K mg base nSp "_law_spoilt" (defScope s_spoilt) f cdv A outer s H E) R e ss O (.dat (.list (dN (pk.drop m)))) O → (he : noStar e = true) → (∀ d' ∈ odds, Φ (.dat d') O) →
      EJ (cxOf (L2.CX P w) P w K mg base nSp "_law_spoilt" (defScope s_spoilt) f cdv A outer s H E) R (.Call (.Name "_law_odd" p) [e] [] pos) ss O Φ := fun {ss O m} hm {e pos p Φ} ha he hq =>
    ej_cal c1 hr (by omega) (av_cons ha av_nil (star_ne he)) ⟨pk.drop m, rfl, rfl, by rw [List.length_drop]; omega, fun d' hd' => hq d' hd'⟩ (he := star_ne he)
  have first : ∀ {X : Cx} , True := fun {_} => trivial
  have oddR : ∀ d' ∈ odds, fin q (.dat d') [] := fun d' hd' => fin0 (h d' (okD_up (by omega) (by omega) (odds_ok d' hd')))
  have e1 : cut (dN pk) (some 1) none = dN (pk.drop 1) := dN_drop pk 1
  have sl1 : ∀ {p1 p2 p3 p4 : Pos} {j : Nat}, EV (cxOf (L2.CX P w) P w K mg base nSp "_law_spoilt" (defScope s_spoilt) f cdv A outer s H E) R (.Subscript (.Name "picks" p1) (.Slice (some (.Constant (.int 1) j p2)) none none p3) p4) (startK nSp [.dat d, .dat (.list (dN pk))]) [] (.dat (.list (dN (pk.drop 1)))) [] := fun {p1 p2 p3 p4 j} => by
    rw [← e1]
    exact ev_slL (ev_v 1) (op_some ev_int) op_none
  cases hs : (isi d "tuple" || isi d "list") with
  | false =>
    refine sj_ifR (wv_or (b2 := true) (tv_not (tv_e (ev_isi2 (ev_v 0) (ev_t b.tuple boot_tuple) (ev_t b.list boot_list) (by decide) (by decide) b.isi))) (fun h1 => by rw [hs] at h1; cases h1) (fun _ => rfl)).tv (fun h1 => ?_) (fun h1 => by rw [hs] at h1; cases h1)
    exact sj_retJ (odd (m := 1) (by omega) sl1 rfl oddR)
  | true =>
    obtain ⟨ds, hds⟩ : ∃ ds, d = .list ds ∨ d = .tuple ds := by
      rcases Bool.or_eq_true_iff.mp hs with h | h
      · obtain ⟨ds, e⟩ := isi_tup.mp h
        exact ⟨ds, .inr e⟩
      · obtain ⟨ds, e⟩ := isi_lst.mp h
        exact ⟨ds, .inl e⟩
    have hok : ds.length ≤ n ∧ ∀ e ∈ ds, okD (k - 1) n e := by
      rcases hds with rfl | rfl
      · exact okD_lst hd
      · exact okD_tup hd
    refine sj_ifR (wv_or (tv_not (tv_e (ev_isi2 (ev_v 0) (ev_t b.tuple boot_tuple) (ev_t b.list boot_list) (by decide) (by decide) b.isi))) (fun _ => wv_or (tv_eqI hr (ev_lenD (ev_v 0) hds b.len) ev_int) (fun _ => wv_or (tv_lt (ev_lenL (ev_v 1) b.len) ev_int) (fun _ => wv_or1 (tv_eqI hr (ev_mod (ev_ixL (ev_v 1) ev_int (dN_get 0 (by omega))) ev_int (by decide)) ev_int)) (fun _ => rfl)) (fun _ => rfl)) (fun _ => rfl)).tv (fun h1 => ?_) (fun h1 => ?_)
    · exact sj_retJ (odd (m := 1) (by omega) sl1 rfl oddR)
    · have h0 : ds.length ≠ 0 := fun z => by rw [z] at h1; simp at h1
      have k1 : ∃ k', k = k' + 1 := by
        cases k with
        | zero => rcases hds with rfl | rfl <;> (unfold okD at hd; exact hd.elim)
        | succ k' => exact ⟨k', rfl⟩
      obtain ⟨k', rfl⟩ := k1
      have hk' : k' + 1 - 1 = k' := rfl
      rw [hk'] at hok
      have ha : pk.getD 1 0 % ds.length < ds.length := Nat.mod_lt _ (by omega)
      have goodEnd : ∀ ds' : List PyData, ds'.length ≤ n + 1 → (∀ e ∈ ds', okD (k' + 5) (n + 1) e) → fin q (.dat (.list ds')) [] ∧ fin q (.dat (.tuple ds')) [] := fun ds' h1 h2 =>
        ⟨fin0 (h _ (okD_mkL h1 h2)), fin0 (h _ (okD_mkT h1 h2))⟩
      have up : ∀ e ∈ ds, okD (k' + 5) (n + 1) e := fun e he => okD_up (by omega) (by omega) (hok.2 e he)
      refine sj_setN 2 (en_listOf (ev_v 0) hds b.list) (fun p => ?_) sc_sp.nd
      have hmod : ((pk.getD 1 0 : Nat) : Int) % (ds.length : Nat) = ((pk.getD 1 0 % ds.length : Nat) : Int) := by simp
      have lenO : ∀ {p1 : Pos} {p2 : Pos} {p3 : Pos}, EV (cxOf (L2.CX P w) P w K mg base nSp "_law_spoilt" (defScope s_spoilt) f cdv A outer s H E) R (.Call (.Name "len" p1) [.Name "pieces" p2] [] p3) ((startK nSp [.dat d, .dat (.list (dN pk))]).set 2 (.val (.ref p))) [(p, .ol ds)] (.dat (.int ds.length)) [(p, .ol ds)] := fun {p1 p2 p3} => by
        refine ej_b1 call_len_seq (ev_v 2) ?_ b.len PySem.boot_len
        intro G0 H0 G H σ ss us S h1 Q w
        obtain ⟨v, rfl, r⟩ := kinds1 h1
        have : v = .ref p := r
        subst this
        obtain ⟨vs, hv, rv⟩ := ob_ol S
        refine ⟨p, vs, rfl, .inl (.of hv), ?_⟩
        rw [dps_len rv]
        exact w.d S (Ex.refl G) (DP.int _) ⟨rfl, rfl⟩
      refine sj_set 3 (ev_intE (ev_mod (ev_ixL (ev_v 1) ev_int (dN_get 1 (by omega))) lenO (by omega)) hmod) ?_ sc_sp.nd
      generalize pk.getD 1 0 % ds.length = at' at ha ⊢
      refine sj_set 4 (ev_intE (ev_mod (ev_ixL (ev_v 1) ev_int (dN_get 2 (by omega))) ev_int (by decide)) (j := ((pk.getD 2 0 % 12 : Nat) : Int)) (by simp)) ?_ sc_sp.nd
      generalize pk.getD 2 0 % 12 = t
      -- the end, from a list of pieces
      by_cases ht : 4 < t
      · refine sj_if (tv_eqI hr (ev_v 4) ev_int) (fun h2 => absurd (of_decide_eq_true h2) (by omega)) (fun _ => ?_)
        refine sj_if (tv_eqI hr (ev_v 4) ev_int) (fun h2 => absurd (of_decide_eq_true h2) (by omega)) (fun _ => ?_)
        refine sj_if (tv_eqI hr (ev_v 4) ev_int) (fun h2 => absurd (of_decide_eq_true h2) (by omega)) (fun _ => ?_)
        refine sj_if (tv_eqI hr (ev_v 4) ev_int) (fun h2 => absurd (of_decide_eq_true h2) (by omega)) (fun _ => ?_)
        refine sj_if (tv_gt (ev_v 4) ev_int) (fun _ => ?_) (fun h2 => by rw [decide_eq_true (by omega : (4 : Int) < t)] at h2; cases h2)
        have e4 : cut (dN pk) (some 4) none = dN (pk.drop 4) := dN_drop pk 4
        have hx : ixN ds.length (at' : Int) = some at' := by
          unfold ixN
          rw [if_pos (by omega), if_pos (by omega)]
          simp
        have gx : atI ds (at' : Int) = some ds[at'] := atI_nat (List.getElem?_eq_getElem ha)
        refine sj_setIxJ (ej_cal (hrec k' rfl) hr (by omega) (av_cons (ev_ixO 0 (ev_v 2) (ev_v 3) rfl gx) (av_cons (k := .dat (.list (dN (pk.drop 4)))) (by rw [← e4]; exact ev_slL (ev_v 1) (op_some ev_int) op_none) av_nil)) ⟨ds[at'], n, pk.drop 4, rfl, rfl, hok.2 _ (List.getElem_mem ha), hn, hn2, by rw [List.length_drop]; omega, fun d' hd' => ?_⟩)
        refine ⟨d', 0, p, ds, at', at', rfl, ev_v 2, ev_v 3, rfl, hx, ?_⟩
        refine sj_nil (sj_nil (sj_nil (sj_nil (sj_nil ?_))))
        have g := goodEnd (ds.set at' d') (by rw [List.length_set]; omega) (fun e he => by
          rcases List.mem_or_eq_of_mem_set he with he | rfl
          · exact up e he
          · exact hd')
        refine sj_frzL 2 0 rfl rfl ?_
        refine sj_ifR (tv_eq hr (ev_isi (ev_v 0) (ev_t b.tuple boot_tuple) (by decide) b.isi) (ev_eqI hr (ev_v 4) ev_int) rfl rfl rfl) (fun _ => ?_) (fun _ => ?_)
        · exact sj_ret (ev_v 2) g.1
        · exact sj_ret (ev_tupOf (ev_v 2) (.inl rfl) b.tuple) g.2
      · refine sj_frzL 2 0 rfl rfl ?_
        have cT : cut ds none (some (at' : Int)) = ds.take at' := cut_to ds at'
        have cF : cut ds (some (at' : Int)) none = ds.drop at' := cut_from ds at'
        have cT1 : cut ds none (some ((at' : Int) + 1)) = ds.take (at' + 1) := by
          have := cut_to ds (at' + 1)
          rwa [Int.natCast_add] at this
        have cF1 : cut ds (some ((at' : Int) + 1)) none = ds.drop (at' + 1) := by
          have := cut_from ds (at' + 1)
          rwa [Int.natCast_add] at this
        have lT : ∀ m, (ds.take m).length ≤ ds.length := fun m => by rw [List.length_take]; omega
        have lD : ∀ m, (ds.drop m).length ≤ ds.length := fun m => by rw [List.length_drop]; omega
        refine sj_if (tv_eqI hr (ev_v 4) ev_int) (fun _ => ?_) (fun _ => ?_)
        · have g := goodEnd (ds.take at' ++ ds.drop (at' + 1)) (by rw [List.length_append, List.length_take, List.length_drop]; omega) (fun e he => by
            rcases List.mem_append.mp he with he | he
            · exact up e (List.mem_of_mem_take he)
            · exact up e (List.mem_of_mem_drop he))
          refine sj_set 2 (k := .dat (.list (ds.take at' ++ ds.drop (at' + 1)))) (by
            rw [← cT, ← cF1]
            exact ev_ladd (ev_slL (ev_v 2) op_none (op_some (ev_v 3))) (ev_slL (ev_v 2) (op_some (ev_add (ev_v 3) ev_int)) op_none) (by rw [cT, cF1]; have := lT at'; have := lD (at' + 1); omega)) ?_ sc_sp.nd
          refine sj_nil ?_
          refine sj_ifR (tv_eq hr (ev_isi (ev_v 0) (ev_t b.tuple boot_tuple) (by decide) b.isi) (ev_eqI hr (ev_v 4) ev_int) rfl rfl rfl) (fun _ => ?_) (fun _ => ?_)
          · exact sj_ret (ev_v 2) g.1
          · exact sj_ret (ev_tupOf (ev_v 2) (.inl rfl) b.tuple) g.2
        refine sj_if (tv_eqI hr (ev_v 4) ev_int) (fun _ => ?_) (fun _ => ?_)
        · have g := goodEnd (ds.take (at' + 1) ++ ds.drop at') (by rw [List.length_append, List.length_take, List.length_drop]; omega) (fun e he => by
            rcases List.mem_append.mp he with he | he
            · exact up e (List.mem_of_mem_take he)
            · exact up e (List.mem_of_mem_drop he))
          refine sj_set 2 (k := .dat (.list (ds.take (at' + 1) ++ ds.drop at'))) (by
            rw [← cT1, ← cF]
            exact ev_ladd (ev_slL (ev_v 2) op_none (op_some (ev_add (ev_v 3) ev_int))) (ev_slL (ev_v 2) (op_some (ev_v 3)) op_none) (by rw [cT1, cF]; have := lT (at' + 1); have := lD at'; omega)) ?_ sc_sp.nd
          refine sj_nil (sj_nil ?_)
          refine sj_ifR (tv_eq hr (ev_isi (ev_v 0) (ev_t b.tuple boot_tuple) (by decide) b.isi) (ev_eqI hr (ev_v 4) ev_int) rfl rfl rfl) (fun _ => ?_) (fun _ => ?_)
          · exact sj_ret (ev_v 2) g.1
          · exact sj_ret (ev_tupOf (ev_v 2) (.inl rfl) b.tuple) g.2
        refine sj_if (tv_eqI hr (ev_v 4) ev_int) (fun _ => ?_) (fun _ => ?_)
        · have g := goodEnd (ds.drop at' ++ ds.take at') (by rw [List.length_append, List.length_take, List.length_drop]; omega) (fun e he => by
            rcases List.mem_append.mp he with he | he
            · exact up e (List.mem_of_mem_drop he)
            · exact up e (List.mem_of_mem_take he))
          refine sj_set 2 (k := .dat (.list (ds.drop at' ++ ds.take at'))) (by
            rw [← cT, ← cF]
            exact ev_ladd (ev_slL (ev_v 2) (op_some (ev_v 3)) op_none) (ev_slL (ev_v 2) op_none (op_some (ev_v 3))) (by rw [cT, cF]; have := lT at'; have := lD at'; omega)) ?_ sc_sp.nd
          refine sj_nil (sj_nil (sj_nil ?_))
          refine sj_ifR (tv_eq hr (ev_isi (ev_v 0) (ev_t b.tuple boot_tuple) (by decide) b.isi) (ev_eqI hr (ev_v 4) ev_int) rfl rfl rfl) (fun _ => ?_) (fun _ => ?_)
          · exact sj_ret (ev_v 2) g.1
          · exact sj_ret (ev_tupOf (ev_v 2) (.inl rfl) b.tuple) g.2
        refine sj_if (tv_eqI hr (ev_v 4) ev_int) (fun _ => ?_) (fun _ => ?_)
        · have e3 : cut (dN pk) (some 3) none = dN (pk.drop 3) := dN_drop pk 3
          refine sj_setJ 2 (ej_op op_cat (Φa := fun k O => ∃ d' ∈ odds, k = .dat (.list (ds.take at' ++ [d'])) ∧ O = []) (ej_op op_cat (Φa := isK (.dat (.list (ds.take at'))) []) (by
            show EV _ _ _ _ _ _ _
            rw [← cT]
            exact ev_slL (ev_v 2) op_none (op_some (ev_v 3))) ?_) ?_) sc_sp.nd
          · rintro k1 O1 ⟨rfl, rfl⟩
            refine EJ.imp (EJ.frzJ (Inv := fun ds' O => (∃ d' ∈ odds, ds' = [d']) ∧ O = []) (ej_lst (aj_cons (Φe := fun k O => ∃ d' ∈ odds, k = .dat d' ∧ O = []) (odd (m := 3) (by omega) (by rw [← e3]; exact ev_slL (ev_v 1) (op_some ev_int) op_none) rfl fun d' hd' => ⟨d', hd', rfl, rfl⟩) (fun k O ⟨d', hd', h1, h2⟩ => by
              subst h1 h2
              exact av_nil.to ⟨[d'], rfl, by simp, fun p => ⟨p, [d'], [], rfl, rfl, ⟨d', hd', rfl⟩, rfl⟩⟩)))) ?_
            rintro k O ⟨ds', rfl, ⟨d', hd', rfl⟩, rfl⟩
            exact oj_ladd (by have := lT at'; simp only [List.length_cons, List.length_nil]; omega) ⟨d', hd', rfl, rfl⟩
          · rintro k1 O1 ⟨d', hd', rfl, rfl⟩
            have g := goodEnd (ds.take at' ++ [d'] ++ ds.drop at') (by rw [List.length_append, List.length_append, List.length_take, List.length_drop]; simp only [List.length_cons, List.length_nil]; omega) (fun e he => by
              rcases List.mem_append.mp he with he | he
              · rcases List.mem_append.mp he with he | he
                · exact up e (List.mem_of_mem_take he)
                · rw [List.mem_singleton.mp he]
                  exact okD_up (by omega) (by omega) (odds_ok d' hd')
              · exact up e (List.mem_of_mem_drop he))
            refine EV.to (k := .dat (.list (ds.drop at'))) (by rw [← cF]; exact ev_slL (ev_v 2) (op_some (ev_v 3)) op_none) ?_
            refine oj_ladd (by rw [List.length_append]; have := lT at'; have := lD at'; simp only [List.length_cons, List.length_nil]; omega) ?_
            refine sj_nil (sj_nil (sj_nil (sj_nil ?_)))
            refine sj_ifR (tv_eq hr (ev_isi (ev_v 0) (ev_t b.tuple boot_tuple) (by decide) b.isi) (ev_eqI hr (ev_v 4) ev_int) rfl rfl rfl) (fun _ => ?_) (fun _ => ?_)
            · exact sj_ret (ev_v 2) g.1
            · exact sj_ret (ev_tupOf (ev_v 2) (.inl rfl) b.tuple) g.2
        refine sj_if (tv_gt (ev_v 4) ev_int) (fun h2 => absurd (of_decide_eq_true h2) (by omega)) (fun _ => ?_)
        have g := goodEnd ds (by omega) up
        refine sj_nil (sj_nil (sj_nil (sj_nil (sj_nil ?_))))
        refine sj_ifR (tv_eq hr (ev_isi (ev_v 0) (ev_t b.tuple boot_tuple) (by decide) b.isi) (ev_eqI hr (ev_v 4) ev_int) rfl rfl rfl) (fun _ => ?_) (fun _ => ?_)
        · exact sj_ret (ev_v 2) g.1
        · exact sj_ret (ev_tupOf (ev_v 2) (.inl rfl) b.tuple) g.2
theorem c_spoilt (D : Dfn K mg "_law_spoilt" s_spoilt) (b : Bn mg) (c1 : Cal P w K mg base "_law_odd" 1 ["picks"] tOdd) : ∀ k, Cal P w K mg base "_law_spoilt" (k + 2) ["thing", "picks"] (tSp k) := by
  intro k
  induction k with
  | zero => exact c_spoilt0 D b c1 0 fun k' e => by cases e
  | succ k ih => exact c_spoilt0 D b c1 (k + 1) fun k' e => by cases e; exact ih
end
end Fc
namespace Fc
open PySem PySem.Spec PyProof.Rows L2 Dl
open Evl (Ex)
abbrev s_law : Stmt := topS 21
def AK (k n : Nat) (ds : List PyData) : Prop := ds.length ≤ n ∧ ∀ d ∈ ds, okD k 2000 d
theorem ak_nil {k : Nat} : AK k 0 [] := ⟨Nat.le_refl _, fun _ h => (nomatch h)⟩
theorem ak_cons {k n : Nat} {d : PyData} {ds : List PyData} (h : okD k 2000 d) (t : AK k n ds) : AK k (n + 1) (d :: ds) := ⟨Nat.succ_le_succ t.1, fun e he => by
  rcases List.mem_cons.mp he with rfl | he
  · exact h
  · exact t.2 e he⟩
theorem ak_app {k n m : Nat} {a b : List PyData} (h : AK k n a) (t : AK k m b) : AK k (n + m) (a ++ b) := ⟨by rw [List.length_append]; have := h.1; have := t.1; omega, fun e he => by
  rcases List.mem_append.mp he with he | he
  · exact h.2 e he
  · exact t.2 e he⟩
theorem ak_up {k k' n : Nat} {a : List PyData} (q : k ≤ k') (h : AK k n a) : AK k' n a := ⟨h.1, fun e he => okD_up q (Nat.le_refl _) (h.2 e he)⟩
theorem ak_le {k n m : Nat} {a : List PyData} (h : AK k n a) (q : n ≤ m) : AK k m a := ⟨Nat.le_trans h.1 q, h.2⟩
theorem ak_rev {k n : Nat} {a : List PyData} (h : AK k n a) : AK k n a.reverse := ⟨by rw [List.length_reverse]; exact h.1, fun e he => h.2 e (List.mem_reverse.mp he)⟩
theorem ak_rep {k n r : Nat} {a : List PyData} (h : AK k n a) : AK k (r * n) (List.replicate r a).flatten := ⟨by
  have e : (List.replicate r a).flatten.length = r * a.length := by simp [List.length_flatten]
  rw [e]
  exact Nat.mul_le_mul_left r h.1, fun e he => by
  obtain ⟨l, hl, hm⟩ := List.mem_flatten.mp he
  rw [List.eq_of_mem_replicate hl] at hm
  exact h.2 e hm⟩
theorem ak_cut {k n : Nat} {a : List PyData} {lo hi : Option Int} (h : AK k n a) : AK k n (cut a lo hi) := by
  unfold cut
  exact ⟨by rw [List.length_take, List.length_drop]; have := h.1; omega, fun e he => h.2 e (List.mem_of_mem_drop (List.mem_of_mem_take he))⟩
theorem ak_sz {k k2 n m : Nat} {a b : List PyData} (h : AK k n a) (t : AK k2 m b) (q : n + m ≤ 16777216 := by decide) : a.length + b.length ≤ 16777216 := by have := h.1; have := t.1; omega
theorem okT {k n : Nat} {ds : List PyData} (h : AK k n ds) (q : n ≤ 2000 := by decide) : okD (k + 1) 2000 (.tuple ds) := okD_mkT (Nat.le_trans h.1 q) h.2
theorem okLs {k n : Nat} {ds : List PyData} (h : AK k n ds) (q : n ≤ 2000 := by decide) : okD (k + 1) 2000 (.list ds) := okD_mkL (Nat.le_trans h.1 q) h.2
theorem pools_ok : ∀ p ∈ pools, ∀ c ∈ p, c < 128 ∧ c ≠ 37 := by decide
theorem lay_ok {po : Tx} (hp : po ∈ pools) {L : Lay} (h : IsLay po 6 L) : AK 2 8 (L.map pairD) := ⟨by rw [List.length_map]; exact h.len, fun e he => by
  obtain ⟨q, hq, rfl⟩ := List.mem_map.mp he
  obtain ⟨h1, h2, h3, h4⟩ := h.ok q hq
  have g := pools_ok po hp
  exact okT (k := 1) (n := 2) (ak_cons (okD_str.mpr ⟨by simp, fun c hc => by rw [List.mem_singleton.mp hc]; exact g _ h1⟩) (ak_cons (okD_str.mpr ⟨by omega, fun c hc => g _ (h4 c hc)⟩) ak_nil))⟩
theorem stk_ok {po : Tx} (hp : po ∈ pools) {Ls : List Lay} (hn : Ls.length ≤ 5) (h : ∀ L ∈ Ls, IsLay po 6 L) : AK 3 5 (Ls.map layD) := ⟨by rw [List.length_map]; exact hn, fun e he => by
  obtain ⟨L, hL, rfl⟩ := List.mem_map.mp he
  exact okT (lay_ok hp (h L hL))⟩
theorem lay_ok1 {po : Tx} (hp : po ∈ pools) {L : Lay} (h : IsLay po 6 L) : okD 3 1000 (.tuple (L.map pairD)) := okD_mkT (by rw [List.length_map]; have := h.len; omega) fun e he => by
  obtain ⟨q, hq, rfl⟩ := List.mem_map.mp he
  obtain ⟨h1, h2, h3, h4⟩ := h.ok q hq
  have g := pools_ok po hp
  refine okD_mkT (by simp) fun e he => ?_
  rcases List.mem_cons.mp he with rfl | he
  · exact okD_str.mpr ⟨by simp, fun c hc => by rw [List.mem_singleton.mp hc]; exact g _ h1⟩
  · rw [List.mem_singleton.mp he]
    exact okD_str.mpr ⟨by omega, fun c hc => g _ (h4 c hc)⟩
theorem stk_ok1 {po : Tx} (hp : po ∈ pools) {Ls : List Lay} (hn : Ls.length ≤ 5) (h : ∀ L ∈ Ls, IsLay po 6 L) : okD 4 1000 (.tuple (Ls.map layD)) := okD_mkT (by rw [List.length_map]; omega) fun e he => by
  obtain ⟨L, hL, rfl⟩ := List.mem_map.mp he
  exact lay_ok1 hp (h L hL)
section
variable {P : Program} {w : World} {K : PySem.W.Frag} {mg : Str → Option Value} {base : Heap}
structure Cs (P : Program) (w : World) (K : PySem.W.Frag) (mg : Str → Option Value) (base : Heap) : Prop where
  bags : Cal P w K mg base "_law_bags" 3 ["script", "limit"] (tBags K)
  pool : Cal P w K mg base "_law_pool" 2 ["bag"] tPool
  layer : Cal P w K mg base "_law_layer" 2 ["bag", "pool", "most"] tLayer
  stack : Cal P w K mg base "_law_stack" 3 ["bag", "pool", "many", "most"] tStack
  spoilt : ∀ k, Cal P w K mg base "_law_spoilt" (k + 2) ["thing", "picks"] (tSp k)
  odd : Cal P w K mg base "_law_odd" 1 ["picks"] tOddD
  islay : Cal P w K mg base "is_layer" 3 ["value"] tIsLay
  isstk : Cal P w K mg base "is_stack" 4 ["value"] tIsStk
  glay : Cal P w K mg base "_law_good_layer" 2 ["value"] tIsLay
  gstk : Cal P w K mg base "_law_good_stack" 3 ["value"] tGstk
def tLaw (K : PySem.W.Frag) : DSp := fun ks B k _ => ∃ a ns, ks = [.val (.ref a)] ∧ ScB K a ns B ∧ k (.dat (.bool true)) []
abbrev nLaw : List Str := ["script", "bag", "pool", "layer", "stack", "things", "thing", "once", "part", "eight", "sign"]
theorem sc_law : FnScope nLaw ["script"] (defScope s_law) := ⟨rfl, rfl, rfl, by decide +kernel, rfl, by decide +kernel, by decide +kernel⟩
def parts : List PyData := [dS [97], dS [], dS [97, 98], dS [32], dS [126], dS (List.replicate 6 [98]).flatten, dS (List.replicate 7 [98]).flatten, .none, .int 5, .tuple [dS [97]], .bool true]
theorem parts_ok : AK 2 11 parts := ⟨by decide, fun d hd => okB_ok ((by decide +kernel : ∀ d ∈ parts, okB 2 2000 d = true) d hd)⟩
theorem lay_bad : layB (.tuple [.tuple [dS [97], dS []]]) = false := by
  rw [← Bool.not_eq_true, layB_iff]
  rintro ⟨L, e, _, hp, _⟩
  simp only [layD, PyData.tuple.injEq] at e
  cases L with
  | nil => simp at e
  | cons q L' =>
    cases L' with
    | cons q2 L'' => simp at e
    | nil =>
      have e2 : PyData.tuple [dS [97], dS []] = pairD q := by simpa using e
      simp only [pairD, PyData.tuple.injEq, List.cons.injEq, PyData.str.injEq, and_true] at e2
      have h2 := sL_inj e2.2
      have := (hp q (by simp)).2.1
      rw [← h2] at this
      simp at this
theorem lay_good : layB (.tuple [.tuple [dS [38], dS [38, 97, 109, 112, 59]]]) = true := layB_iff.mpr ⟨[(38, [38, 97, 109, 112, 59])], rfl, by decide, fun q hq => by
  rw [List.mem_singleton.mp hq]
  exact ⟨by decide +kernel, by decide, by decide, by decide +kernel⟩, by simp⟩
theorem stk_good : stkB (.tuple []) = true := stkB_iff.mpr ⟨[], rfl, by decide, fun _ h => (nomatch h)⟩
theorem str_eqv (x : Str) : (!PyData.eqv (.str x) (.str x)) = false := by simp [PyData.eqv]
theorem pl_tf (c : Bool) : pl (.str (if c then "True" else "False")) = true := by cases c <;> decide +kernel
theorem getD_list {l : List PyData} {i : Nat} (h : i < l.length) : l.getD i .none = l[i] := by simp [List.getD_eq_getElem?_getD, h]
theorem fd_law {f : Addr} {fd : FuncData} (F : FunD K "law" "law" (defArgs s_law) (defBody s_law) (defScope s_law) [] [] f fd) (b : Bn mg) (C : Cs P w K mg base) : FD P w K mg base 13 f fd ["script"] (tLaw K) := by
  refine fd_okD F sc_law (fun ks B k R ⟨a, ns, h, _⟩ => by rw [h]; rfl) ?_
  rintro cdv A outer s H E ks B q R hr ⟨a, ns, rfl, hB, h⟩
  refine sj_bags 1 (fun ss => ∃ k1 k2 k3 k4 k5 k6 k7 k8 k9 k10, ss = [.val (.ref a), k1, k2, k3, k4, k5, k6, k7, k8, k9, k10]) sc_law.nd (ej_calP (B := B) (F := []) C.bags hr (by decide) (av_cons (ev_v 0) (av_cons ev_int av_nil)) (by rw [List.append_nil]) ⟨a, ns, 10, rfl, hB, by decide, fun pl bs hbs => ⟨pl, bs, rfl, List.append_nil _, hbs⟩⟩) ⟨_, _, _, _, _, _, _, _, _, _, rfl⟩ ?_ ?_
  · rintro ss1 p ds hg ⟨k1, k2, k3, k4, k5, k6, k7, k8, k9, k10, rfl⟩
    refine sj_setJ 2 (ej_calO 0 C.pool hr (by decide) (av_cons (ev_v 1) av_nil) rfl ⟨p, ds, 0, rfl, rfl, hg, fun po hpo => ?_⟩) sc_law.nd
    obtain ⟨po1, po2, po3⟩ := pool_ok po hpo
    refine sj_par 3 4 (aj_cons (Φe := fun k O => ∃ L i', k = .dat (layD L) ∧ IsLay po 6 L ∧ O = [(p, BagO ds i')]) (ej_calO 0 C.layer hr (by decide) (av_cons (ev_v 1) (av_cons (ev_v 2) (av_cons ev_int av_nil))) rfl ⟨p, ds, _, 6, po, rfl, rfl, hg, po1, po3, by omega, by decide, by decide, fun L i' hL => ⟨L, i', rfl, hL, rfl⟩⟩) ?_) rfl sc_law.nd
    rintro k0 O0 ⟨L, i0, rfl, hL, rfl⟩
    refine aj_cons (Φe := fun k O => ∃ Ls i', k = .dat (stkD Ls) ∧ Ls.length ≤ 5 ∧ (∀ L ∈ Ls, IsLay po 6 L) ∧ O = [(p, BagO ds i')]) (ej_calO 0 C.stack hr (by decide) (av_cons (ev_v 1) (av_cons (ev_v 2) (av_cons ev_int (av_cons ev_int av_nil)))) rfl ⟨p, ds, i0, 5, 6, po, rfl, rfl, hg, po1, po3, by omega, by decide, by decide, by decide, fun Ls i' h1 h2 => ⟨Ls, i', rfl, h1, h2, rfl⟩⟩) ?_
    rintro k9' O9 ⟨Ls, i1, rfl, hL5, hLs, rfl⟩
    refine av_nil.to ⟨_, _, rfl, ?_⟩
    have hl := lay_ok hpo hL
    have hs := stk_ok hpo hL5 hLs
    have okl1 := lay_ok1 hpo hL
    have oks1 := stk_ok1 hpo hL5 hLs
    show SJ _ _ _ [_, _, _, .dat (.tuple (L.map pairD)), .dat (.tuple (Ls.map layD)), _, _, _, _, _, _] _ _
    generalize L.map pairD = lE at hl okl1 ⊢
    generalize Ls.map layD = sE at hs oks1 ⊢
    have okl : okD 3 2000 (.tuple lE) := okT hl
    have oks : okD 4 2000 (.tuple sE) := okT hs
    refine sj_set 5 (k := .dat (.list [.tuple lE, .tuple sE, .list lE, .list sE])) (EN.frz (en_lst (ds := [.tuple lE, .tuple sE, .list lE, .list sE]) (av_cons (ev_v 3) (av_cons (ev_v 4) (av_cons (EN.frz (en_listOf (ev_v 3) (.inr rfl) b.list)) (av_cons (EN.frz (en_listOf (ev_v 4) (.inr rfl) b.list)) av_nil)))) rfl (line24 (by decide : 4 ≤ 16777216)))) ?_ sc_law.nd
    have hT1 : AK 30 _ [.tuple lE, .tuple sE, .list lE, .list sE] := (ak_cons (okD_up (by decide) (by decide) okl) (ak_cons (okD_up (by decide) (by decide) oks) (ak_cons (okLs (ak_up (by decide) hl)) (ak_cons (okLs (ak_up (by decide) hs)) ak_nil))))
    generalize ([.tuple lE, .tuple sE, .list lE, .list sE] : List PyData) = T1 at hT1 ⊢
    refine sj_set 5 (k := .dat (.list (T1 ++ [.tuple lE.reverse, .tuple (lE ++ (cut lE (some (-1)) none)), .tuple (sE ++ [.tuple lE]), .tuple (List.replicate 5 [.tuple lE]).flatten]))) (ev_ladd (ev_v 5) (EN.frz (en_lst (ds := [.tuple lE.reverse, .tuple (lE ++ (cut lE (some (-1)) none)), .tuple (sE ++ [.tuple lE]), .tuple (List.replicate 5 [.tuple lE]).flatten]) (av_cons (ev_revT (ev_v 3)) (av_cons (ev_tadd (ev_v 3) (ev_slT (ev_v 3) (op_some (ev_neg ev_int)) op_none) (ak_sz (k := 30) (k2 := 30) (ak_up (by decide) hl) (ak_cut (ak_up (by decide) hl)))) (av_cons (ev_tadd (ev_v 4) (ev_tup (ds := [.tuple lE]) (av_cons (ev_v 3) av_nil) rfl (line24 (by decide : 1 ≤ 16777216))) (ak_sz (k := 30) (k2 := 30) (ak_up (by decide) hs) (ak_cons (okD_up (by decide) (by decide) okl) ak_nil))) (av_cons (ev_tmul (ev_tup (ds := [.tuple lE]) (av_cons (ev_v 3) av_nil) rfl (line24 (by decide : 1 ≤ 16777216))) (n := 5) ev_int (by simp) (by decide) (by decide) (by decide : 1 ≤ 1000)) av_nil)))) rfl (line24 (by decide : 4 ≤ 16777216)))) (by have := hT1.1; show T1.length + 4 ≤ _; omega)) ?_ sc_law.nd
    have hT2 : AK 30 _ (T1 ++ [.tuple lE.reverse, .tuple (lE ++ (cut lE (some (-1)) none)), .tuple (sE ++ [.tuple lE]), .tuple (List.replicate 5 [.tuple lE]).flatten]) := ak_app hT1 (ak_cons (okT (ak_rev (ak_up (by decide) hl))) (ak_cons (okT (ak_app (ak_up (by decide) hl) (ak_cut (ak_up (by decide) hl)))) (ak_cons (okT (ak_app (ak_up (by decide) hs) (ak_cons (okD_up (by decide) (by decide) okl) ak_nil))) (ak_cons (okT (ak_rep (ak_cons (okD_up (by decide) (by decide) okl) ak_nil))) ak_nil))))
    generalize (T1 ++ [.tuple lE.reverse, .tuple (lE ++ (cut lE (some (-1)) none)), .tuple (sE ++ [.tuple lE]), .tuple (List.replicate 5 [.tuple lE]).flatten]) = T2 at hT2 ⊢
    refine sj_set 5 (k := .dat (.list (T2 ++ [.tuple (List.replicate 6 [.tuple lE]).flatten, .tuple [.list lE], .tuple [], .tuple [.tuple []], .tuple [.tuple [], .tuple []], .tuple [.tuple lE]]))) (ev_ladd (ev_v 5) (EN.frz (en_lst (ds := [.tuple (List.replicate 6 [.tuple lE]).flatten, .tuple [.list lE], .tuple [], .tuple [.tuple []], .tuple [.tuple [], .tuple []], .tuple [.tuple lE]]) (av_cons (ev_tmul (ev_tup (ds := [.tuple lE]) (av_cons (ev_v 3) av_nil) rfl (line24 (by decide : 1 ≤ 16777216))) (n := 6) ev_int (by simp) (by decide) (by decide) (by decide : 1 ≤ 1000)) (av_cons (ev_tup (ds := [.list lE]) (av_cons (EN.frz (en_listOf (ev_v 3) (.inr rfl) b.list)) av_nil) rfl (line24 (by decide : 1 ≤ 16777216))) (av_cons (ev_tup (ds := []) av_nil rfl (line24 (by decide : 0 ≤ 16777216))) (av_cons (ev_tup (ds := [.tuple []]) (av_cons (ev_tup (ds := []) av_nil rfl (line24 (by decide : 0 ≤ 16777216))) av_nil) rfl (line24 (by decide : 1 ≤ 16777216))) (av_cons (ev_tup (ds := [.tuple [], .tuple []]) (av_cons (ev_tup (ds := []) av_nil rfl (line24 (by decide : 0 ≤ 16777216))) (av_cons (ev_tup (ds := []) av_nil rfl (line24 (by decide : 0 ≤ 16777216))) av_nil)) rfl (line24 (by decide : 2 ≤ 16777216))) (av_cons (ev_tup (ds := [.tuple lE]) (av_cons (ev_v 3) av_nil) rfl (line24 (by decide : 1 ≤ 16777216))) av_nil)))))) rfl (line24 (by decide : 6 ≤ 16777216)))) (by have := hT2.1; show T2.length + 6 ≤ _; omega)) ?_ sc_law.nd
    have hT3 : AK 30 _ (T2 ++ [.tuple (List.replicate 6 [.tuple lE]).flatten, .tuple [.list lE], .tuple [], .tuple [.tuple []], .tuple [.tuple [], .tuple []], .tuple [.tuple lE]]) := ak_app hT2 (ak_cons (okT (ak_rep (ak_cons (okD_up (by decide) (by decide) okl) ak_nil))) (ak_cons (okT (ak_cons (okLs (ak_up (by decide) hl)) ak_nil)) (ak_cons (okT ak_nil) (ak_cons (okT (ak_cons (okT ak_nil) ak_nil)) (ak_cons (okT (ak_cons (okT ak_nil) (ak_cons (okT ak_nil) ak_nil))) (ak_cons (okT (ak_cons (okD_up (by decide) (by decide) okl) ak_nil)) ak_nil))))))
    generalize (T2 ++ [.tuple (List.replicate 6 [.tuple lE]).flatten, .tuple [.list lE], .tuple [], .tuple [.tuple []], .tuple [.tuple [], .tuple []], .tuple [.tuple lE]]) = T3 at hT3 ⊢
    refine sj_for1 6 (fun i ss O => ∃ (T : List PyData) (k6 k7 : Kd), ss = [.val (.ref a), .val (.ref p), .dat (dS po), .dat (.tuple lE), .dat (.tuple sE), .dat (.list T), k6, k7, k8, k9, k10] ∧ O = [(p, BagO ds i1)] ∧ AK 30 (14 + 2 * i) T)
      sc_law.nd (ij_tup (ev_tup (ds := [.tuple lE, .tuple sE]) (av_cons (ev_v 3) (av_cons (ev_v 4) av_nil)) rfl (line24 (by decide : 2 ≤ 16777216)))) ⟨T3, _, _, rfl, rfl, hT3⟩ (fun _ _ _ _ => trivial) ?_ ?_
    · clear hT3
      rintro i ss O hi ⟨T, k6, k7, rfl, rfl, hT⟩
      have hth : okD 4 1000 (([.tuple lE, .tuple sE] : List PyData).getD i .none) := by
        have : i = 0 ∨ i = 1 := by simp at hi; omega
        rcases this with rfl | rfl
        · exact okD_up (by decide) (by decide) okl1
        · exact oks1
      generalize (([.tuple lE, .tuple sE] : List PyData).getD i .none) = th at hth ⊢
      have pk : ∀ (m c : Nat), 0 < m → cut (dN ds) (some (((i1 % m + c : Nat)) : Int)) none = dN (ds.drop (i1 % m + c)) := fun m c _ => dN_drop ds _
      refine sj_setJ 7 (ej_cal (C.spoilt 4) hr (by decide) (av_cons (ev_v 6) (av_cons (k := .dat (.list (dN (ds.drop (i1 % 200))))) (by
        rw [← dN_drop ds (i1 % 200)]
        exact ev_slL (ev_ixO 0 (ev_v 1) ev_int rfl (d := .list (dN ds)) rfl) (op_some (ev_intE (ev_mod (ev_ixO 0 (ev_v 1) ev_int rfl (d := .int i1) rfl) ev_int (by decide)) (by simp))) op_none) av_nil)) ⟨th, 1000, ds.drop (i1 % 200), rfl, rfl, hth, by decide, by decide, by rw [List.length_drop, hg.1]; have := Nat.mod_lt i1 (by decide : 200 > 0); omega, fun on hon => ?_⟩) sc_law.nd
      refine sj_setJ 5 (ej_op op_cat (Φa := isK (.dat (.list T)) [(p, BagO ds i1)]) (ev_v 5) ?_) sc_law.nd
      rintro ka Oa ⟨rfl, rfl⟩
      refine EJ.imp (EJ.frzJ (Inv := fun ds' O => (∃ d', okD 14 1002 d' ∧ ds' = [on, d']) ∧ O = [(p, BagO ds i1)]) (ej_lst (aj_cons (Φe := isK (.dat on) [(p, BagO ds i1)]) (ev_v 7) ?_))) ?_
      · rintro kb Ob ⟨rfl, rfl⟩
        refine aj_cons (Φe := fun k O => ∃ d', okD 14 1002 d' ∧ k = .dat d' ∧ O = [(p, BagO ds i1)]) (ej_cal (C.spoilt 9) hr (by decide) (av_cons (ev_v 7) (av_cons (k := .dat (.list (dN (ds.drop (i1 % 170 + 10))))) (by
          rw [← dN_drop ds (i1 % 170 + 10)]
          exact ev_slL (ev_ixO 0 (ev_v 1) ev_int rfl (d := .list (dN ds)) rfl) (op_some (ev_intE (ev_add (ev_mod (ev_ixO 0 (ev_v 1) ev_int rfl (d := .int i1) rfl) ev_int (by decide)) ev_int) (by simp))) op_none) av_nil)) ⟨on, 1001, ds.drop (i1 % 170 + 10), rfl, rfl, hon, by decide, by decide, by rw [List.length_drop, hg.1]; have := Nat.mod_lt i1 (by decide : 170 > 0); omega, fun d' hd' => ⟨d', hd', rfl, rfl⟩⟩) ?_
        rintro kc Oc ⟨d', hd', rfl, rfl⟩
        exact av_nil.to ⟨[on, d'], rfl, by simp, fun p' => ⟨p', [on, d'], _, rfl, rfl, ⟨d', hd', rfl⟩, rfl⟩⟩
      · rintro kd Od ⟨ds', rfl, ⟨d', hd', rfl⟩, rfl⟩
        refine oj_ladd (by have := hT.1; simp only [List.length_cons, List.length_nil]; have : i < 2 := by simpa using hi
                           omega) ?_
        refine sj_nil ⟨T ++ [on, d'], _, _, rfl, rfl, ?_⟩
        exact ak_le (ak_app hT (ak_cons (okD_up (by decide) (by decide) hon) (ak_cons (okD_up (by decide) (by decide) hd') ak_nil))) (by omega)
    rintro ss O ⟨T, k6, k7, rfl, rfl, hT⟩
    have hT : AK 30 18 T := hT
    refine sj_for1 8 (fun i ss O => ∃ (T : List PyData) (k8 : Kd), ss = [.val (.ref a), .val (.ref p), .dat (dS po), .dat (.tuple lE), .dat (.tuple sE), .dat (.list T), k6, k7, k8, k9, k10] ∧ O = [(p, BagO ds i1)] ∧ AK 30 (18 + 5 * i) T)
      sc_law.nd (ij_tup (ds := parts) (ev_tup (ds := [dS [97], dS [], dS [97, 98], dS [32], dS [126], dS (List.replicate 6 [98]).flatten, dS (List.replicate 7 [98]).flatten, .none, .int 5, .tuple [dS [97]], .bool true]) (av_cons (ev_strE (y := sL [97]) (by decide +kernel)) (av_cons (ev_strE (y := sL []) (by decide +kernel)) (av_cons (ev_strE (y := sL [97, 98]) (by decide +kernel)) (av_cons (ev_strE (y := sL [32]) (by decide +kernel)) (av_cons (ev_strE (y := sL [126]) (by decide +kernel)) (av_cons (ev_smul (ev_strE (y := sL [98]) (by decide +kernel)) (n := 6) ev_int (by decide) (by decide)) (av_cons (ev_smul (ev_strE (y := sL [98]) (by decide +kernel)) (n := 7) ev_int (by decide) (by decide)) (av_cons ev_non (av_cons ev_int (av_cons (ev_tup (ds := [dS [97]]) (av_cons (ev_strE (y := sL [97]) (by decide +kernel)) av_nil) rfl (line24 (by decide : 1 ≤ 16777216))) (av_cons ev_bl av_nil))))))))))) rfl (line24 (by decide : 11 ≤ 16777216)))) ⟨T, _, rfl, rfl, hT⟩ (fun _ _ _ _ => trivial) ?_ ?_
    · rintro i ss O hi ⟨T, k8, rfl, rfl, hT⟩
      have okpt : okD 2 2000 (parts.getD i .none) := by
        rw [getD_list hi]
        exact parts_ok.2 _ (List.getElem_mem hi)
      have hi : i < 11 := hi
      generalize parts.getD i .none = pt at okpt ⊢
      refine sj_set 5 (k := .dat (.list (T ++ [.tuple [.tuple [pt, dS [120]]], .tuple [.tuple [dS [97], pt]], pt, .tuple [.tuple [.tuple [pt, dS [120]]]], .tuple [.tuple [.tuple [dS [97], pt]]]]))) (ev_ladd (ev_v 5) (EN.frz (en_lst (ds := [.tuple [.tuple [pt, dS [120]]], .tuple [.tuple [dS [97], pt]], pt, .tuple [.tuple [.tuple [pt, dS [120]]]], .tuple [.tuple [.tuple [dS [97], pt]]]]) (av_cons (ev_tup (ds := [.tuple [pt, dS [120]]]) (av_cons (ev_tup (ds := [pt, dS [120]]) (av_cons (ev_v 8) (av_cons (ev_strE (y := sL [120]) (by decide +kernel)) av_nil)) rfl (line24 (by decide : 2 ≤ 16777216))) av_nil) rfl (line24 (by decide : 1 ≤ 16777216))) (av_cons (ev_tup (ds := [.tuple [dS [97], pt]]) (av_cons (ev_tup (ds := [dS [97], pt]) (av_cons (ev_strE (y := sL [97]) (by decide +kernel)) (av_cons (ev_v 8) av_nil)) rfl (line24 (by decide : 2 ≤ 16777216))) av_nil) rfl (line24 (by decide : 1 ≤ 16777216))) (av_cons (ev_v 8) (av_cons (ev_tup (ds := [.tuple [.tuple [pt, dS [120]]]]) (av_cons (ev_tup (ds := [.tuple [pt, dS [120]]]) (av_cons (ev_tup (ds := [pt, dS [120]]) (av_cons (ev_v 8) (av_cons (ev_strE (y := sL [120]) (by decide +kernel)) av_nil)) rfl (line24 (by decide : 2 ≤ 16777216))) av_nil) rfl (line24 (by decide : 1 ≤ 16777216))) av_nil) rfl (line24 (by decide : 1 ≤ 16777216))) (av_cons (ev_tup (ds := [.tuple [.tuple [dS [97], pt]]]) (av_cons (ev_tup (ds := [.tuple [dS [97], pt]]) (av_cons (ev_tup (ds := [dS [97], pt]) (av_cons (ev_strE (y := sL [97]) (by decide +kernel)) (av_cons (ev_v 8) av_nil)) rfl (line24 (by decide : 2 ≤ 16777216))) av_nil) rfl (line24 (by decide : 1 ≤ 16777216))) av_nil) rfl (line24 (by decide : 1 ≤ 16777216))) av_nil))))) rfl (line24 (by decide : 5 ≤ 16777216)))) (by have := hT.1; show T.length + 5 ≤ _; omega)) ?_ sc_law.nd
      have hT4 : AK 30 _ (T ++ [.tuple [.tuple [pt, dS [120]]], .tuple [.tuple [dS [97], pt]], pt, .tuple [.tuple [.tuple [pt, dS [120]]]], .tuple [.tuple [.tuple [dS [97], pt]]]]) := ak_app hT (ak_cons (okT (ak_cons (okT (ak_cons (okD_up (by decide) (by decide) okpt) (ak_cons (okB_ok (by decide +kernel)) ak_nil))) ak_nil)) (ak_cons (okT (ak_cons (okT (ak_cons (okB_ok (by decide +kernel)) (ak_cons (okD_up (by decide) (by decide) okpt) ak_nil))) ak_nil)) (ak_cons (okD_up (by decide) (by decide) okpt) (ak_cons (okT (ak_cons (okT (ak_cons (okT (ak_cons (okD_up (by decide) (by decide) okpt) (ak_cons (okB_ok (by decide +kernel)) ak_nil))) ak_nil)) ak_nil)) (ak_cons (okT (ak_cons (okT (ak_cons (okT (ak_cons (okB_ok (by decide +kernel)) (ak_cons (okD_up (by decide) (by decide) okpt) ak_nil))) ak_nil)) ak_nil)) ak_nil)))))
      generalize (T ++ [.tuple [.tuple [pt, dS [120]]], .tuple [.tuple [dS [97], pt]], pt, .tuple [.tuple [.tuple [pt, dS [120]]]], .tuple [.tuple [.tuple [dS [97], pt]]]]) = T4 at hT4 ⊢
      refine sj_nil ⟨T4, _, rfl, rfl, ak_le hT4 (by omega)⟩
    rintro ss O ⟨T, k8, rfl, rfl, hT⟩
    have hT : AK 30 73 T := hT
    refine sj_set 9 (ev_tupN (en_lj (lj_map1 10 (fun i => .tuple [dS [([97, 98, 99, 100, 101, 102, 103, 104] : Tx).getD i 0], dS [120]]) (blkOk_by (N := nLaw) (sc := defScope s_law) (own := [("sign", 10)]) (by decide +kernel)) sc_law.nd (ij_str (ev_strE (y := sL [97, 98, 99, 100, 101, 102, 103, 104]) (by decide +kernel))) (by decide)
      (fun i hi s H C cl fp => ev_tup (ds := [dS [([97, 98, 99, 100, 101, 102, 103, 104] : Tx).getD i 0], dS [120]]) (av_cons (ev_v 10) (av_cons (ev_strE (y := sL [120]) (by decide +kernel)) av_nil)) rfl (line24 (by decide : 2 ≤ 16777216)))) sc_law.nd rfl) b.tuple) ?_ sc_law.nd
    have h8 : AK 2 8 ((List.range ([97, 98, 99, 100, 101, 102, 103, 104] : Tx).length).map fun i => PyData.tuple [dS [([97, 98, 99, 100, 101, 102, 103, 104] : Tx).getD i 0], dS [120]]) := ⟨by decide, fun d hd => okB_ok ((by decide +kernel : ∀ d ∈ ((List.range ([97, 98, 99, 100, 101, 102, 103, 104] : Tx).length).map fun i => PyData.tuple [dS [([97, 98, 99, 100, 101, 102, 103, 104] : Tx).getD i 0], dS [120]]), okB 2 2000 d = true) d hd)⟩
    generalize ((List.range ([97, 98, 99, 100, 101, 102, 103, 104] : Tx).length).map fun i => PyData.tuple [dS [([97, 98, 99, 100, 101, 102, 103, 104] : Tx).getD i 0], dS [120]]) = E8 at h8 ⊢
    have ok8 : okD 3 2000 (.tuple E8) := okT h8
    refine sj_set 5 (k := .dat (.list (T ++ [.tuple E8, .tuple (E8 ++ [.tuple [dS [105], dS [120]]]), .tuple (List.replicate 5 [.tuple E8]).flatten]))) (ev_ladd (ev_v 5) (EN.frz (en_lst (ds := [.tuple E8, .tuple (E8 ++ [.tuple [dS [105], dS [120]]]), .tuple (List.replicate 5 [.tuple E8]).flatten]) (av_cons (ev_v 9) (av_cons (ev_tadd (ev_v 9) (ev_tup (ds := [.tuple [dS [105], dS [120]]]) (av_cons (ev_tup (ds := [dS [105], dS [120]]) (av_cons (ev_strE (y := sL [105]) (by decide +kernel)) (av_cons (ev_strE (y := sL [120]) (by decide +kernel)) av_nil)) rfl (line24 (by decide : 2 ≤ 16777216))) av_nil) rfl (line24 (by decide : 1 ≤ 16777216))) (ak_sz (k := 30) (k2 := 30) (ak_up (by decide) h8) (ak_cons (okT (ak_cons (okB_ok (by decide +kernel)) (ak_cons (okB_ok (by decide +kernel)) ak_nil))) ak_nil))) (av_cons (ev_tmul (ev_tup (ds := [.tuple E8]) (av_cons (ev_v 9) av_nil) rfl (line24 (by decide : 1 ≤ 16777216))) (n := 5) ev_int (by simp) (by decide) (by decide) (by decide : 1 ≤ 1000)) av_nil))) rfl (line24 (by decide : 3 ≤ 16777216)))) (by have := hT.1; show T.length + 3 ≤ _; omega)) ?_ sc_law.nd
    have hT5 : AK 30 _ (T ++ [.tuple E8, .tuple (E8 ++ [.tuple [dS [105], dS [120]]]), .tuple (List.replicate 5 [.tuple E8]).flatten]) := ak_app hT (ak_cons (okD_up (by decide) (by decide) ok8) (ak_cons (okT (ak_app (ak_up (by decide) h8) (ak_cons (okT (ak_cons (okB_ok (by decide +kernel)) (ak_cons (okB_ok (by decide +kernel)) ak_nil))) ak_nil))) (ak_cons (okT (ak_rep (ak_cons (okD_up (by decide) (by decide) ok8) ak_nil))) ak_nil)))
    generalize (T ++ [.tuple E8, .tuple (E8 ++ [.tuple [dS [105], dS [120]]]), .tuple (List.replicate 5 [.tuple E8]).flatten]) = T5 at hT5 ⊢
    refine sj_set 5 (k := .dat (.list (T5 ++ [.tuple [.tuple [dS [97], dS [120]], .tuple [dS [97], dS [121]]], .tuple [.tuple [dS [98], dS [120]], .tuple [dS [97], dS [121]]]]))) (ev_ladd (ev_v 5) (EN.frz (en_lst (ds := [.tuple [.tuple [dS [97], dS [120]], .tuple [dS [97], dS [121]]], .tuple [.tuple [dS [98], dS [120]], .tuple [dS [97], dS [121]]]]) (av_cons (ev_tup (ds := [.tuple [dS [97], dS [120]], .tuple [dS [97], dS [121]]]) (av_cons (ev_tup (ds := [dS [97], dS [120]]) (av_cons (ev_strE (y := sL [97]) (by decide +kernel)) (av_cons (ev_strE (y := sL [120]) (by decide +kernel)) av_nil)) rfl (line24 (by decide : 2 ≤ 16777216))) (av_cons (ev_tup (ds := [dS [97], dS [121]]) (av_cons (ev_strE (y := sL [97]) (by decide +kernel)) (av_cons (ev_strE (y := sL [121]) (by decide +kernel)) av_nil)) rfl (line24 (by decide : 2 ≤ 16777216))) av_nil)) rfl (line24 (by decide : 2 ≤ 16777216))) (av_cons (ev_tup (ds := [.tuple [dS [98], dS [120]], .tuple [dS [97], dS [121]]]) (av_cons (ev_tup (ds := [dS [98], dS [120]]) (av_cons (ev_strE (y := sL [98]) (by decide +kernel)) (av_cons (ev_strE (y := sL [120]) (by decide +kernel)) av_nil)) rfl (line24 (by decide : 2 ≤ 16777216))) (av_cons (ev_tup (ds := [dS [97], dS [121]]) (av_cons (ev_strE (y := sL [97]) (by decide +kernel)) (av_cons (ev_strE (y := sL [121]) (by decide +kernel)) av_nil)) rfl (line24 (by decide : 2 ≤ 16777216))) av_nil)) rfl (line24 (by decide : 2 ≤ 16777216))) av_nil)) rfl (line24 (by decide : 2 ≤ 16777216)))) (by have := hT5.1; show T5.length + 2 ≤ _; omega)) ?_ sc_law.nd
    have hT6 : AK 30 _ (T5 ++ [.tuple [.tuple [dS [97], dS [120]], .tuple [dS [97], dS [121]]], .tuple [.tuple [dS [98], dS [120]], .tuple [dS [97], dS [121]]]]) := ak_app hT5 (ak_cons (okT (ak_cons (okT (ak_cons (okB_ok (by decide +kernel)) (ak_cons (okB_ok (by decide +kernel)) ak_nil))) (ak_cons (okT (ak_cons (okB_ok (by decide +kernel)) (ak_cons (okB_ok (by decide +kernel)) ak_nil))) ak_nil))) (ak_cons (okT (ak_cons (okT (ak_cons (okB_ok (by decide +kernel)) (ak_cons (okB_ok (by decide +kernel)) ak_nil))) (ak_cons (okT (ak_cons (okB_ok (by decide +kernel)) (ak_cons (okB_ok (by decide +kernel)) ak_nil))) ak_nil))) ak_nil))
    generalize (T5 ++ [.tuple [.tuple [dS [97], dS [120]], .tuple [dS [97], dS [121]]], .tuple [.tuple [dS [98], dS [120]], .tuple [dS [97], dS [121]]]]) = T6 at hT6 ⊢
    have odx : ∀ m c : Nat, m + c ≤ 390 → 0 < m → okD 30 2000 (odds.getD (((ds.drop (i1 % m + c)).getD 0 0 + 7 * (ds.drop (i1 % m + c)).getD 1 0) % odds.length) .none) := fun m c _ _ => by
      have hlt : ((ds.drop (i1 % m + c)).getD 0 0 + 7 * (ds.drop (i1 % m + c)).getD 1 0) % odds.length < odds.length := Nat.mod_lt _ (by decide +kernel)
      rw [getD_list hlt]
      exact okD_up (by decide) (by decide) (odds_ok _ (List.getElem_mem hlt))
    have o1 := odx 300 0 (by decide) (by decide)
    have o2 := odx 250 40 (by decide) (by decide)
    rw [Nat.add_zero] at o1
    refine sj_for1 6 (fun i ss O => (∃ k6, ss = [.val (.ref a), .val (.ref p), .dat (dS po), .dat (.tuple lE), .dat (.tuple sE), .dat (.list T6), k6, k7, k8, .dat (.tuple E8), k10]) ∧ O = [(p, BagO ds i1)])
      sc_law.nd (ij_list (ds := T6 ++ [_, _]) (ev_ladd (ev_v 5) (EN.frz (en_lst (ds := [_, _]) (av_cons (ev_cal C.odd hr (by decide) (av_cons (k := .dat (.list (dN (ds.drop (i1 % 300))))) (by
        rw [← dN_drop ds (i1 % 300)]
        exact ev_slL (ev_ixO 0 (ev_v 1) ev_int rfl (d := .list (dN ds)) rfl) (op_some (ev_intE (ev_mod (ev_ixO 0 (ev_v 1) ev_int rfl (d := .int i1) rfl) ev_int (by decide)) (by simp))) op_none) av_nil) ⟨_, rfl, rfl, by rw [List.length_drop, hg.1]; have := Nat.mod_lt i1 (by decide : 300 > 0); omega, rfl, rfl⟩)
        (av_cons (ev_cal C.odd hr (by decide) (av_cons (k := .dat (.list (dN (ds.drop (i1 % 250 + 40))))) (by
        rw [← dN_drop ds (i1 % 250 + 40)]
        exact ev_slL (ev_ixO 0 (ev_v 1) ev_int rfl (d := .list (dN ds)) rfl) (op_some (ev_intE (ev_add (ev_mod (ev_ixO 0 (ev_v 1) ev_int rfl (d := .int i1) rfl) ev_int (by decide)) ev_int) (by simp))) op_none) av_nil) ⟨_, rfl, rfl, by rw [List.length_drop, hg.1]; have := Nat.mod_lt i1 (by decide : 250 > 0); omega, rfl, rfl⟩) av_nil)) rfl (line24 (by decide : 2 ≤ 16777216)))) (by have := hT6.1; simp only [List.length_cons, List.length_nil]; omega))) ⟨⟨_, rfl⟩, rfl⟩ (fun _ _ _ _ => trivial) ?_ ?_
    · rintro i ss O hi ⟨⟨k6, rfl⟩, rfl⟩
      have okx := ak_app hT6 (ak_cons o1 (ak_cons o2 ak_nil))
      have okth := okx.2 _ (List.getElem_mem hi)
      rw [getD_list hi]
      generalize (T6 ++ [_, _] : List PyData)[i] = th at okth ⊢
      refine sj_ifR (tv_ne hr (ev_reprB (ev_cal C.islay hr (by decide) (av_cons (ev_v 6) av_nil) ⟨th, 30, 2000, rfl, rfl, okth, by decide, rfl, rfl⟩) b.repr) (ev_reprB (ev_cal C.glay hr (by decide) (av_cons (ev_v 6) av_nil) ⟨th, 30, 2000, rfl, rfl, okth, by decide, rfl, rfl⟩) b.repr) (pl_tf _) (pl_tf _) (str_eqv _)) (fun h1 => by cases h1) (fun _ => ?_)
      refine sj_ifR (tv_ne hr (ev_reprB (ev_cal C.isstk hr (by decide) (av_cons (ev_v 6) av_nil) ⟨th, 30, 2000, rfl, rfl, okth, by decide, rfl, rfl⟩) b.repr) (ev_reprB (ev_cal C.gstk hr (by decide) (av_cons (ev_v 6) av_nil) ⟨th, 30, 2000, rfl, rfl, okth, by decide, by decide, rfl, rfl⟩) b.repr) (pl_tf _) (pl_tf _) (str_eqv _)) (fun h1 => by cases h1) (fun _ => ?_)
      exact sj_nil ⟨⟨_, rfl⟩, rfl⟩
    · rintro ss O ⟨⟨k6, rfl⟩, rfl⟩
      exact sj_nil ⟨_, _, _, _, _, _, _, _, _, _, rfl⟩
  · rintro ss1 ⟨k1, k2, k3, k4, k5, k6, k7, k8, k9, k10, rfl⟩
    refine sj_ifR (wv_or (tv_isnB (ev_cal C.islay hr (by decide) (av_cons (ev_tup (ds := [.tuple [dS [97], dS []]]) (av_cons (ev_tup (ds := [dS [97], dS []]) (av_cons (ev_strE (y := sL [97]) (by decide +kernel)) (av_cons (ev_strE (y := sL []) (by decide +kernel)) av_nil)) rfl (line24 (by decide : 2 ≤ 16777216))) av_nil) rfl (line24 (by decide : 1 ≤ 16777216))) av_nil) ⟨_, 3, 2000, rfl, rfl, okB_ok (by decide +kernel), by decide, rfl, rfl⟩) ev_bl) (fun _ => wv_or1 (tv_isnB (ev_cal C.islay hr (by decide) (av_cons (ev_tup (ds := [.tuple [dS [38], dS [38, 97, 109, 112, 59]]]) (av_cons (ev_tup (ds := [dS [38], dS [38, 97, 109, 112, 59]]) (av_cons (ev_strE (y := sL [38]) (by decide +kernel)) (av_cons (ev_strE (y := sL [38, 97, 109, 112, 59]) (by decide +kernel)) av_nil)) rfl (line24 (by decide : 2 ≤ 16777216))) av_nil) rfl (line24 (by decide : 1 ≤ 16777216))) av_nil) ⟨_, 3, 2000, rfl, rfl, okB_ok (by decide +kernel), by decide, rfl, rfl⟩) ev_bl)) (fun _ => rfl)).tv (fun h1 => ?_) (fun _ => ?_)
    · rw [lay_bad, lay_good] at h1
      simp at h1
    · refine sj_ret (ev_isB (ev_cal C.isstk hr (by decide) (av_cons (ev_tup (ds := []) av_nil rfl (line24 (by decide : 0 ≤ 16777216))) av_nil) ⟨_, 3, 2000, rfl, rfl, okB_ok (by decide +kernel), by decide, rfl, rfl⟩) ev_bl) (fin0 ?_)
      rw [stk_good]
      exact h
end
end Fc
set_option maxHeartbeats 0
namespace K1
open PySem PySem.Spec PyProof.Rows L2 Dl
def dfn (x : String) (i : Nat) : He.DefD := ⟨(PySem.Str.ofString x, none), PySem.Str.ofString x, PySem.Str.ofString x, defArgs (Fc.topS i), defBody (Fc.topS i), defScope (Fc.topS i), [], []⟩
def fn : List He.DefD := [dfn "of_signs" 3, dfn "is_pair" 4, dfn "is_layer" 5, dfn "is_stack" 6, dfn "_law_cell_at" 8, dfn "_law_draws" 9, dfn "_law_spoilt" 10, dfn "_law_bag" 11, dfn "_law_bags" 12, dfn "_law_take" 13, dfn "_law_odd" 14, dfn "_law_pool" 15, dfn "_law_layer" 16, dfn "_law_stack" 17, dfn "_law_signs_good" 18, dfn "_law_good_layer" 19, dfn "_law_good_stack" 20, dfn "law" 21]
def fa : List He.Fa := [.str "SIGNS" (Dl.sL Fc.SGN), .int "MAX_LAYERS" 5, .glo "of_signs", .glo "is_pair", .glo "is_layer", .glo "is_stack", .glo "_law_cell_at", .glo "_law_draws", .glo "_law_spoilt", .glo "_law_bag", .glo "_law_bags", .glo "_law_take", .glo "_law_odd", .glo "_law_pool", .glo "_law_layer", .glo "_law_stack", .glo "_law_signs_good", .glo "_law_good_layer", .glo "_law_good_stack", .glo "law", .free "len", .free "range", .free "isinstance", .free "all", .free "str", .free "tuple", .free "list", .free "int", .free "bool", .free "repr", .free "sorted", .free "set", .free "min", .free "max", .free "sum", .free "zip", .free "dict"]
def names : List PySem.Str := ["SIGNS", "MAX_LAYERS", "of_signs", "is_pair", "is_layer", "is_stack", "_law_cell_at", "_law_draws", "_law_spoilt", "_law_bag", "_law_bags", "_law_take", "_law_odd", "_law_pool", "_law_layer", "_law_stack", "_law_signs_good", "_law_good_layer", "_law_good_stack"]
abbrev R : PySem.W.OpenRow := PySem.W.OpenLaw.row PySem.Challenge.rw_signlayers_k01_layers_and_stacks_recogni
abbrev hk : PySem.W.Hook := He.hookD 4 fa fn
def ob (s : PySem.W.SharedT) : He.AlD := He.obsDG 4 fa fn (HandSHeadRun.getT s)
theorem ob_eq (s : PySem.W.SharedT) : ob s = hk.obs s.abs := He.obsDG_eq (HandSHeadRun.getT_eq s)
theorem run (w : World) : HandSHeadRun.RunEq R (PySem.W.view R.prog [21]) hk ob 4000 names w := by
  intro os
  kernel_rfl
/-- the head's end, what a def may let out told by the world -/
theorem walk_w {l : PySem.W.OpenLaw} {n k : Nat} {q : Program} {loose : List Str} {XP : (Str → Option Value) → Heap → Prop} {YP : World → Heap → Prop} {d : DefRec} {CX : World → CXT} {x : Str}
    (hn : l.most = some n) (hn2 : n ≤ sizeLine) (hdf : d.params.defaults = []) (hr : Room k callerA)
    (F : ∀ (w : World) (mg : Str → Option Value) (fa : Addr) (h : Heap), YP w h → h.Ns mainGlobals mg → mg d.name = some (.ref fa) →
      ∃ (K : PySem.W.Frag) (fd : FuncData) (sp : Sp), K.In h ∧ (∀ (s : Shared) (u : Value), BindsTo s fd ⟨[u], []⟩ [(x, u)]) ∧
        (∀ (H : Hp) (a : Addr) (ns : List Int), ns.length ≤ n → Only H → SqL K H a (ns.map V.int) → sp [.ref a] H (fun v _ => v = .bl true) fun _ _ _ => False) ∧
        ∀ base : Heap, K.In base → base.Ns mainGlobals mg → FnOk l.prog w K mg base (CX w) k fa fd [x] sp)
    (hCX : ∀ (w : World) (H : Hp) (s : Shared) (e : Value) (s' : Shared), CX w [] H s (fun _ _ _ => False) e s' → False) :
    PySem.W.WalkO q loose XP YP l.row.toRowW d [] (fun f vs => PySem.call f vs) := by
  refine Att.attach_call hn hdf fun w s₀ s₁ mg mb fa o pm cd doc a vs ns G Y ho hd hcd hmg hobj hints hlen hg => ?_
  obtain ⟨K, fd, sp, KX, hb, hsp, hF⟩ := F w mg fa _ Y G.T.g hmg
  exact law_call KX G.T.g G.T.b G.T.builtins G.T.nolimit hg hobj hints (Nat.le_trans hlen hn2) hr hF hb (fun H hO hS => hsp H a ns hlen hO hS) fun H e s' => hCX w H s₁ e s'
theorem law_sp {K : PySem.W.Frag} {H : Hp} {a : Addr} {ns : List Int} (hO : Only H) (hS : SqL K H a (ns.map V.int)) : toSp (Fc.tLaw K) [.ref a] H (fun v _ => v = .bl true) fun _ _ _ => False := by
  have fin : ∀ (B : Store), ScB K a ns B → (B.map (·.1)).Nodup → (∀ q ∈ B, ObAt (fun _ => none) H q.1 q.2) → toSp (Fc.tLaw K) [.ref a] H (fun v _ => v = .bl true) fun _ _ _ => False := by
    intro B hB hn hb
    refine ⟨((fun _ => none) : Hp), [.val (.ref a)], B, (fun (r : Kd) (_ : Store) => r = .dat (.bool true)), (fun (_ : Addr) => False), .cons rfl .nil, ?_, hn, ?_, ⟨a, ns, rfl, hB, rfl⟩, ?_, ?_⟩
    · intro x o e
      cases e
    · exact fun q hq => ⟨hb q hq, rfl⟩
    · intro G' H' v r B' _ hv hr
      subst hr
      cases hv
      rfl
    · exact fun _ h => False.elim h
  rcases hS with h | h
  · rcases h with h | ⟨o, h⟩
    · rcases hO a with z | ⟨o, xs, z⟩
      · rw [z] at h; cases h
      · rw [z] at h; cases h
    · exact fin [(a, Scr o ns)] (.inl ⟨o, rfl⟩) (by simp) fun q hq => by
        rw [List.mem_singleton.mp hq]
        exact h
  · exact fin [] (.inr ⟨rfl, h⟩) List.nodup_nil fun q hq => (nomatch hq)
section
variable {P : Program} {w : World} {K : PySem.W.Frag} {h : Heap} {mg : Str → Option Value}
theorem bn_of (X : K.In h) (G : h.Ns mainGlobals mg) (c : He.SaysD fa fn K) : Bn mg :=
  ⟨He.free_ok X G (c.fact 20 (f := .free "len") rfl), He.free_ok X G (c.fact 21 (f := .free "range") rfl), He.free_ok X G (c.fact 22 (f := .free "isinstance") rfl), He.free_ok X G (c.fact 23 (f := .free "all") rfl), He.free_ok X G (c.fact 24 (f := .free "str") rfl), He.free_ok X G (c.fact 25 (f := .free "tuple") rfl), He.free_ok X G (c.fact 26 (f := .free "list") rfl), He.free_ok X G (c.fact 27 (f := .free "int") rfl), He.free_ok X G (c.fact 28 (f := .free "bool") rfl), He.free_ok X G (c.fact 29 (f := .free "repr") rfl), He.free_ok X G (c.fact 30 (f := .free "sorted") rfl), He.free_ok X G (c.fact 31 (f := .free "set") rfl), He.free_ok X G (c.fact 32 (f := .free "min") rfl), He.free_ok X G (c.fact 33 (f := .free "max") rfl), He.free_ok X G (c.fact 34 (f := .free "sum") rfl), He.free_ok X G (c.fact 35 (f := .free "zip") rfl), He.free_ok X G (c.fact 36 (f := .free "dict") rfl)⟩
theorem d3 (X : K.In h) (G : h.Ns mainGlobals mg) (c : He.SaysD fa fn K) : Dfn K mg "of_signs" (Fc.topS 3) := by
  obtain ⟨fd, F⟩ := c.def_ 0 (d := dfn "of_signs" 3) rfl
  exact ⟨_, fd, F, He.glo_ok X G (c.fact 2 (f := .glo "of_signs") rfl)⟩
theorem d4 (X : K.In h) (G : h.Ns mainGlobals mg) (c : He.SaysD fa fn K) : Dfn K mg "is_pair" (Fc.topS 4) := by
  obtain ⟨fd, F⟩ := c.def_ 1 (d := dfn "is_pair" 4) rfl
  exact ⟨_, fd, F, He.glo_ok X G (c.fact 3 (f := .glo "is_pair") rfl)⟩
theorem d5 (X : K.In h) (G : h.Ns mainGlobals mg) (c : He.SaysD fa fn K) : Dfn K mg "is_layer" (Fc.topS 5) := by
  obtain ⟨fd, F⟩ := c.def_ 2 (d := dfn "is_layer" 5) rfl
  exact ⟨_, fd, F, He.glo_ok X G (c.fact 4 (f := .glo "is_layer") rfl)⟩
theorem d6 (X : K.In h) (G : h.Ns mainGlobals mg) (c : He.SaysD fa fn K) : Dfn K mg "is_stack" (Fc.topS 6) := by
  obtain ⟨fd, F⟩ := c.def_ 3 (d := dfn "is_stack" 6) rfl
  exact ⟨_, fd, F, He.glo_ok X G (c.fact 5 (f := .glo "is_stack") rfl)⟩
theorem d8 (X : K.In h) (G : h.Ns mainGlobals mg) (c : He.SaysD fa fn K) : Dfn K mg "_law_cell_at" (Fc.topS 8) := by
  obtain ⟨fd, F⟩ := c.def_ 4 (d := dfn "_law_cell_at" 8) rfl
  exact ⟨_, fd, F, He.glo_ok X G (c.fact 6 (f := .glo "_law_cell_at") rfl)⟩
theorem d9 (X : K.In h) (G : h.Ns mainGlobals mg) (c : He.SaysD fa fn K) : Dfn K mg "_law_draws" (Fc.topS 9) := by
  obtain ⟨fd, F⟩ := c.def_ 5 (d := dfn "_law_draws" 9) rfl
  exact ⟨_, fd, F, He.glo_ok X G (c.fact 7 (f := .glo "_law_draws") rfl)⟩
theorem d10 (X : K.In h) (G : h.Ns mainGlobals mg) (c : He.SaysD fa fn K) : Dfn K mg "_law_spoilt" (Fc.topS 10) := by
  obtain ⟨fd, F⟩ := c.def_ 6 (d := dfn "_law_spoilt" 10) rfl
  exact ⟨_, fd, F, He.glo_ok X G (c.fact 8 (f := .glo "_law_spoilt") rfl)⟩
theorem d11 (X : K.In h) (G : h.Ns mainGlobals mg) (c : He.SaysD fa fn K) : Dfn K mg "_law_bag" (Fc.topS 11) := by
  obtain ⟨fd, F⟩ := c.def_ 7 (d := dfn "_law_bag" 11) rfl
  exact ⟨_, fd, F, He.glo_ok X G (c.fact 9 (f := .glo "_law_bag") rfl)⟩
theorem d12 (X : K.In h) (G : h.Ns mainGlobals mg) (c : He.SaysD fa fn K) : Dfn K mg "_law_bags" (Fc.topS 12) := by
  obtain ⟨fd, F⟩ := c.def_ 8 (d := dfn "_law_bags" 12) rfl
  exact ⟨_, fd, F, He.glo_ok X G (c.fact 10 (f := .glo "_law_bags") rfl)⟩
theorem d13 (X : K.In h) (G : h.Ns mainGlobals mg) (c : He.SaysD fa fn K) : Dfn K mg "_law_take" (Fc.topS 13) := by
  obtain ⟨fd, F⟩ := c.def_ 9 (d := dfn "_law_take" 13) rfl
  exact ⟨_, fd, F, He.glo_ok X G (c.fact 11 (f := .glo "_law_take") rfl)⟩
theorem d14 (X : K.In h) (G : h.Ns mainGlobals mg) (c : He.SaysD fa fn K) : Dfn K mg "_law_odd" (Fc.topS 14) := by
  obtain ⟨fd, F⟩ := c.def_ 10 (d := dfn "_law_odd" 14) rfl
  exact ⟨_, fd, F, He.glo_ok X G (c.fact 12 (f := .glo "_law_odd") rfl)⟩
theorem d15 (X : K.In h) (G : h.Ns mainGlobals mg) (c : He.SaysD fa fn K) : Dfn K mg "_law_pool" (Fc.topS 15) := by
  obtain ⟨fd, F⟩ := c.def_ 11 (d := dfn "_law_pool" 15) rfl
  exact ⟨_, fd, F, He.glo_ok X G (c.fact 13 (f := .glo "_law_pool") rfl)⟩
theorem d16 (X : K.In h) (G : h.Ns mainGlobals mg) (c : He.SaysD fa fn K) : Dfn K mg "_law_layer" (Fc.topS 16) := by
  obtain ⟨fd, F⟩ := c.def_ 12 (d := dfn "_law_layer" 16) rfl
  exact ⟨_, fd, F, He.glo_ok X G (c.fact 14 (f := .glo "_law_layer") rfl)⟩
theorem d17 (X : K.In h) (G : h.Ns mainGlobals mg) (c : He.SaysD fa fn K) : Dfn K mg "_law_stack" (Fc.topS 17) := by
  obtain ⟨fd, F⟩ := c.def_ 13 (d := dfn "_law_stack" 17) rfl
  exact ⟨_, fd, F, He.glo_ok X G (c.fact 15 (f := .glo "_law_stack") rfl)⟩
theorem d18 (X : K.In h) (G : h.Ns mainGlobals mg) (c : He.SaysD fa fn K) : Dfn K mg "_law_signs_good" (Fc.topS 18) := by
  obtain ⟨fd, F⟩ := c.def_ 14 (d := dfn "_law_signs_good" 18) rfl
  exact ⟨_, fd, F, He.glo_ok X G (c.fact 16 (f := .glo "_law_signs_good") rfl)⟩
theorem d19 (X : K.In h) (G : h.Ns mainGlobals mg) (c : He.SaysD fa fn K) : Dfn K mg "_law_good_layer" (Fc.topS 19) := by
  obtain ⟨fd, F⟩ := c.def_ 15 (d := dfn "_law_good_layer" 19) rfl
  exact ⟨_, fd, F, He.glo_ok X G (c.fact 17 (f := .glo "_law_good_layer") rfl)⟩
theorem d20 (X : K.In h) (G : h.Ns mainGlobals mg) (c : He.SaysD fa fn K) : Dfn K mg "_law_good_stack" (Fc.topS 20) := by
  obtain ⟨fd, F⟩ := c.def_ 16 (d := dfn "_law_good_stack" 20) rfl
  exact ⟨_, fd, F, He.glo_ok X G (c.fact 18 (f := .glo "_law_good_stack") rfl)⟩
theorem d21 (X : K.In h) (G : h.Ns mainGlobals mg) (c : He.SaysD fa fn K) : Dfn K mg "law" (Fc.topS 21) := by
  obtain ⟨fd, F⟩ := c.def_ 17 (d := dfn "law" 21) rfl
  exact ⟨_, fd, F, He.glo_ok X G (c.fact 19 (f := .glo "law") rfl)⟩
theorem facts {f : Addr} (X : K.In h) (G : h.Ns mainGlobals mg) (hfa : mg ("law" : Str) = some (.ref f)) (c : He.SaysD fa fn K) :
    ∃ fd : FuncData, (∀ (s : Shared) (v : Value), BindsTo s fd ⟨[v], []⟩ [("script", v)]) ∧ ∀ base : Heap, K.In base → base.Ns mainGlobals mg → FnOk P w K mg base (L2.CX P w) 13 f fd ["script"] (toSp (Fc.tLaw K)) := by
  obtain ⟨f', fd, F, hm⟩ := (d21 X G c).ex
  have e := hfa.symm.trans hm
  cases e
  have b := bn_of X G c
  refine ⟨fd, fun s v => FunD.bindsA (ps := ["script"]) F (fun _ _ _ _ _ _ us hl => match us, hl with | [_], _ => rfl) s [v] rfl, fun base _ _ => ?_⟩
  have gS : ∃ t, mg "SIGNS" = some (.str (sL Fc.SGN) t) := He.str_ok X G (c.fact 0 (f := .str "SIGNS" (Dl.sL Fc.SGN)) rfl)
  have gM : ∃ t, mg "MAX_LAYERS" = some (.int 5 t) := He.int_ok X G (c.fact 1 (f := .int "MAX_LAYERS" 5) rfl)
  have cell := Fc.c_cell (P := P) (w := w) (base := base) (d8 X G c) b
  have draws := Fc.c_draws (P := P) (w := w) (base := base) (d9 X G c) b
  have bag := Fc.c_bag (d11 X G c) cell draws
  have bags := Fc.c_bags (d12 X G c) b bag
  have take := Fc.c_take (P := P) (w := w) (base := base) (d13 X G c) b
  have pool := Fc.c_pool (d15 X G c) take
  have layer := Fc.c_layer (d16 X G c) b take
  have stack := Fc.c_stack (d17 X G c) b take layer
  have odd := Fc.c_oddD (P := P) (w := w) (base := base) (d14 X G c) b
  have sp := Fc.c_spoilt (d10 X G c) b (Fc.c_odd odd)
  have sg := Fc.c_signs (P := P) (w := w) (base := base) (d3 X G c) b gS
  have pr := Fc.c_pair (d4 X G c) b sg
  have il := Fc.c_islay (d5 X G c) b pr
  have st := Fc.c_isstk (d6 X G c) b gM il
  have gs := Fc.c_gsigns (P := P) (w := w) (base := base) (d18 X G c) b
  have gl := Fc.c_glayer (d19 X G c) b gs
  have gk := Fc.c_gstack (d20 X G c) b gl
  exact Fc.fd_law F b ⟨bags, pool, layer, stack, sp, odd, il, st, gl, gk⟩
end
end K1
open PySem PySem.W PySem.Calls PyProof.Rows
theorem PySem.Challenge.cw_signlayers_k01_layers_and_stacks_recogni_holds : PySem.Challenge.rw_signlayers_k01_layers_and_stacks_recogni.Holds := by
  w_on; o_law
  refine HandSHeadRun.head_any (r := OpenLaw.row PySem.Challenge.rw_signlayers_k01_layers_and_stacks_recogni) (q := view (OpenLaw.row PySem.Challenge.rw_signlayers_k01_layers_and_stacks_recogni).prog [21]) (H := K1.hk) (ob := K1.ob) (M := 4000) (loose := K1.names) (d := HandSHeadRun.topDef (OpenLaw.row PySem.Challenge.rw_signlayers_k01_layers_and_stacks_recogni).prog 21) (kwd := []) K1.ob_eq
    (by kernel_rfl) (fun s => by kernel_rfl) K1.run (by kernel_rfl) (by kernel_rfl) (by kernel_rfl) (by rfl) (by first | assumption | decide +kernel) (by decide +kernel) ⟨rfl, rfl, rfl, rfl, rfl, by decide +kernel⟩ ?hw ?hc
  case hw => w_witness2
  case hc =>
    refine K1.walk_w (l := PySem.Challenge.rw_signlayers_k01_layers_and_stacks_recogni) (n := 63) (k := 13) (x := "script") (CX := fun w => L2.CX (PySem.Challenge.rw_signlayers_k01_layers_and_stacks_recogni).prog w) rfl (by decide) (by kernel_rfl) ⟨rfl, by decide, by decide⟩ ?F (fun w H s e s' z => by
      obtain ⟨_, _, _, _, _, _, _, _, _, _, _, _, z⟩ := z
      exact z)
    intro w mg fa h Y G hmg0
    obtain ⟨K, KX, c⟩ := Y
    have hmg : mg ("law" : PySem.Str) = some (.ref fa) := by
      have e : (HandSHeadRun.topDef (OpenLaw.row PySem.Challenge.rw_signlayers_k01_layers_and_stacks_recogni).prog 21).name = ("law" : PySem.Str) := by kernel_rfl
      rw [← e]
      exact hmg0
    obtain ⟨fd, hb, hF⟩ := K1.facts (P := (PySem.Challenge.rw_signlayers_k01_layers_and_stacks_recogni).prog) (w := w) KX G hmg c
    exact ⟨K, fd, Dl.toSp (Fc.tLaw K), KX, hb, fun H a ns hl hO hS => K1.law_sp hO hS, hF⟩
