import PyProof.Rows.All
import Wide.All
import OpenK.AllK
import Wide.FinOn
import HandS.ForMost
import HandS.TupAny
import HandS.Deep
import HandS.IsInst
import HandS.Style
import KE.SortData
import KE.KDictKeyed
import HandS.Wide
import HandS.Conv
import HandS.Strs
import HandS.Zip
import HandS.Flow
import HandS.More
import PyProof.TupleOfSeq
import KE.GoesEnum
import PyProof.SeqIndex
import HandS.Iter
import PyProof.FactsAll.subtypes_4
import KE.KDictDisplayH
import KE.KDictSum
import KE.KDictCopyH
import HandS.TupMul
import HandS.DictTup
import HandS.TupLen
import HandS.Dict
import KE.DataMinMax
import HandS.DictComp
import HandS.NoneIn
import HandS.Flt
import KE.KDictPairs
import PySem.Challenge.RW_nestdolls_k16_written_cases_and_names
set_option Elab.async false
set_option linter.all false
set_option maxRecDepth 100000
set_option maxHeartbeats 4000000
/-! ND0: tuples that are made here have no attribute dict: they are tracked with their objects. -/
namespace ND
open PySem PySem.Spec L2
open PyProof.Rows hiding St

/-- a tuple laid just now -/
abbrev NewT (H : Hp) (xs : List V) (Q : VK) : Prop := ∀ p o, H p = none → o.dict = none → Q (.ref p) (upd H p (.frz o (.tup xs)))
section
variable {X : Cx}
theorem new_tup {pins : List (Addr × Obj)} {s : Shared} {σ : St} {H : Hp} {xs : List V} {us : List Value} {Q : VK} (I : Inv X pins σ H s) (r : Vals xs us) (z : xs.length ≤ sizeLine) (q : NewT H xs Q) :
    EP X pins σ Q (.ref s.heap.objs.size) { s with heap := s.heap.push { cls := .type "tuple", data := .seq us.toArray } } := by
  have e : (s.heap.push { cls := .type "tuple", data := .seq us.toArray }).get? s.heap.objs.size = some { cls := .type "tuple", data := .seq us.toArray } := Heap.get?_push_size _ rfl
  refine ⟨.ref s.heap.objs.size, _, I.laid (t' := s.toks) (o := .frz { cls := .type "tuple", data := .seq us.toArray } (.tup xs)) (fun b u q => Heap.get?_push_of_some _ q) (Nat.le_refl _) ?_, rfl, q _ _ (I.hok.fresh (Nat.le_refl _)) rfl⟩
  exact ⟨e, z, us, r, ⟨_, e, rfl, _, rfl⟩⟩
variable {es : List Expr} {t : TA} {pos : Pos}
def tTupF (t : TA) : TE := fun σ H Q => t σ H fun xs H1 => xs.length ≤ sizeLine ∧ NewT H1 xs Q
theorem pe_tupF {k : Nat} (h : PA X es t) : PE X (.Tuple es k pos) (tTupF t) := ⟨fun pins s σ H Q I hq =>
  wpAny_Tuple_spliced (thn (h.run pos pins s σ H _ I hq) fun us s1 ⟨xs, H1, I1, r, z, q⟩ => ⟨by rw [← r.length]; exact z, new_tup I1 r z q⟩)⟩
/-- t + u -/
def rCatF (K : PySem.W.Frag) : R2 := fun x y H Q => ∃ a b xs ys, x = .ref a ∧ y = .ref b ∧ SqT K H a xs ∧ SqT K H b ys ∧ xs.length + ys.length ≤ sizeLine ∧
  (xs = [] → Q (.ref b) H) ∧ (ys = [] → Q (.ref a) H) ∧ NewT H (xs ++ ys) Q
theorem op_catF : OpR X (binaryOp .Add) (rCatF X.K) := by
  rintro pins s σ H _ _ v u Q I rx ry ⟨a, b, xs, ys, rfl, rfl, ha, hb, hz, q0, q1, q2⟩
  cases rx
  cases ry
  obtain ⟨its, r1, p1, _⟩ := I.tuple ha
  obtain ⟨its2, r2, p2, _⟩ := I.tuple hb
  by_cases hx : xs = []
  · subst hx
    cases r1
    exact cat_tup0 p1 p2 ⟨.ref b, H, I, rfl, q0 rfl⟩
  · exact HT.cat_tup p1 p2 (fun z => hx (r1.nil_iff.mp z)) (fun z => ⟨.ref a, H, I, rfl, q1 (r2.nil_iff.mp z)⟩) (fun _ => new_tup I (r1.append r2) (by rw [List.length_append]; exact hz) q2) (by rw [← r1.length, ← r2.length]; exact hz)
/-- t[lo:hi] -/
def rSlF (K : PySem.W.Frag) : V → Option Int → Option Int → Hp → VK → Prop := fun x lo hi H Q => ∃ a xs, x = .ref a ∧ SqT K H a xs ∧
  (HT.sIx xs.length 0 lo = 0 ∧ HT.sIx xs.length xs.length hi = xs.length → Q (.ref a) H) ∧ NewT H (cutV xs lo hi) Q
theorem sl_tupF : SlR X (rSlF X.K) := by
  rintro pins s σ H _ v vl vu lo hi sl Q I rx hs pl pu ⟨a, xs, rfl, hx, q1, q2⟩
  cases rx
  obtain ⟨its, r, ht, hz⟩ := I.tuple hx
  have hlen : its.toArray.size = xs.length := List.size_toArray.trans r.length.symm
  refine ⟨"tuple", _, PyProof.Rows.slot_tuple_getitem.lookup, ht.typeIs, ?_⟩
  by_cases hw : HT.sIx xs.length 0 lo = 0 ∧ HT.sIx xs.length xs.length hi = xs.length
  · exact getItem_tuple_whole ht hs pl pu (by rw [hlen]; exact hw) ⟨.ref a, H, I, rfl, q1 hw⟩
  · refine HT.getItem_tuple_cut ht hs pl pu (by rw [hlen]; exact hw) ?_ (by rw [hlen]; exact hz)
    rw [hlen]
    exact new_tup I ((r.drop _).take _) (Nat.le_trans (cutV_length xs lo hi) hz) q2
/-- tuple(x) -/
def rTupleF (K : PySem.W.Frag) : List V → Hp → VK → Prop := fun xs H Q => ∃ p ys, xs = [.ref p] ∧ ((SqL K H p ys ∧ NewT H ys Q) ∨ (SqT K H p ys ∧ Q (.ref p) H))
theorem call_tupleF : CallR X (.type "tuple") (rTupleF X.K) := by
  rintro pins s σ H _ us Q I r ⟨p, ys, rfl, h⟩
  obtain ⟨u, rfl, rx⟩ := vals1 r
  cases rx
  rcases h with ⟨hq, q⟩ | ⟨hq, q⟩
  · obtain ⟨its, r', pl, hz⟩ := I.list hq
    have hlen := r'.length
    exact call_tuple_list pl.isList (fun h' kp => new_tup (I.kept (h' := h') (t' := s.toks) kp) r' hz q) (by rw [List.size_toArray]; omega)
  · obtain ⟨its, r', pl, hz⟩ := I.tuple hq
    exact call_tuple_same pl ⟨.ref p, H, I, rfl, q⟩
end
end ND

set_option Elab.async false
set_option linter.all false
set_option maxRecDepth 100000
set_option maxHeartbeats 4000000
/-! ND1: data in the abstract heap; slots; the state's invariant; the judgements of the data layer. -/
namespace ND
open PySem PySem.Spec L2
open PyProof.Rows hiding St

abbrev MS := Addr → Prop

mutual
inductive Rp (M : MS) (H : Hp) : V → PyData → Prop
  | non : Rp M H .non .none
  | bl (b : Bool) : Rp M H (.bl b) (.bool b)
  | int (i : Int) : Rp M H (.int i) (.int i)
  | str (x : Str) : Rp M H (.str x) (.str x)
  | lst {a : Addr} {xs : List V} {ds : List PyData} : H a = some (.lst xs) → ¬ M a → RpAll M H xs ds → Rp M H (.ref a) (.list ds)
  | tup {a : Addr} {o : Obj} {xs : List V} {ds : List PyData} : H a = some (.frz o (.tup xs)) → o.dict = Option.none → ¬ M a → RpAll M H xs ds → Rp M H (.ref a) (.tuple ds)
inductive RpAll (M : MS) (H : Hp) : List V → List PyData → Prop
  | nil : RpAll M H [] []
  | cons {v : V} {vs : List V} {d : PyData} {ds : List PyData} : Rp M H v d → RpAll M H vs ds → RpAll M H (v :: vs) (d :: ds)
end

/-- what stood, unlocked, stands; the locked ones are the old ones or new -/
structure Later (M : MS) (H : Hp) (M' : MS) (H' : Hp) : Prop where
  keep : ∀ b o, H b = some o → ¬ M b → H' b = some o
  sub : ∀ b, M' b → M b ∨ H b = none

mutual
theorem Rp.later {M M' : MS} {H H' : Hp} (L : Later M H M' H') : ∀ (d : PyData) (v : V), Rp M H v d → Rp M' H' v d
  | .none, _, h => by cases h; exact .non
  | .bool b, _, h => by cases h; exact .bl b
  | .int i, _, h => by cases h; exact .int i
  | .str x, _, h => by cases h; exact .str x
  | .list ds, _, h => by
    cases h with
    | lst e n r =>
      refine .lst (L.keep _ _ e n) (fun m => ?_) (RpAll.later L ds _ r)
      rcases L.sub _ m with q | q
      · exact n q
      · rw [e] at q; cases q
  | .tuple ds, _, h => by
    cases h with
    | tup e dn n r =>
      refine .tup (L.keep _ _ e n) dn (fun m => ?_) (RpAll.later L ds _ r)
      rcases L.sub _ m with q | q
      · exact n q
      · rw [e] at q; cases q
  | .dict _, _, h => by cases h
theorem RpAll.later {M M' : MS} {H H' : Hp} (L : Later M H M' H') : ∀ (ds : List PyData) (vs : List V), RpAll M H vs ds → RpAll M' H' vs ds
  | [], _, h => by cases h; exact .nil
  | d :: ds, _, h => by
    cases h with
    | cons h1 h2 => exact .cons (Rp.later L d _ h1) (RpAll.later L ds _ h2)
end
theorem Later.refl (M : MS) (H : Hp) : Later M H M H := ⟨fun _ _ e _ => e, fun _ m => .inl m⟩
theorem Later.trans {M1 M2 M3 : MS} {H1 H2 H3 : Hp} (a : Later M1 H1 M2 H2) (b : Later M2 H2 M3 H3) : Later M1 H1 M3 H3 where
  keep := fun c o e n => b.keep c o (a.keep c o e n) fun m => by
    rcases a.sub c m with q | q
    · exact n q
    · rw [e] at q; cases q
  sub := fun c m => by
    rcases b.sub c m with q | q
    · exact a.sub c q
    · by_cases n : M1 c
      · exact .inl n
      · right
        cases e : H1 c with
        | none => rfl
        | some o => rw [a.keep c o e n] at q; cases q

theorem sqt {K : PySem.W.Frag} {H : Hp} {a : Addr} {o : Obj} {xs : List V} (e : H a = some (.frz o (.tup xs))) : SqT K H a xs := .inl (.inr ⟨o, e⟩)
mutual
theorem Rp.dp {K : PySem.W.Frag} {M : MS} {H : Hp} : ∀ (d : PyData) (v : V), Rp M H v d → Dp K H v d
  | .none, _, h => by cases h; exact .non
  | .bool b, _, h => by cases h; exact .bl b
  | .int i, _, h => by cases h; exact .int i
  | .str x, _, h => by cases h; exact .str x
  | .list ds, _, h => by
    cases h with
    | lst e n r => exact .lst (SqL.of e) (RpAll.dp ds _ r)
  | .tuple ds, _, h => by
    cases h with
    | tup e dn n r => exact .tup (sqt e) (RpAll.dp ds _ r)
  | .dict _, _, h => by cases h
theorem RpAll.dp {K : PySem.W.Frag} {M : MS} {H : Hp} : ∀ (ds : List PyData) (vs : List V), RpAll M H vs ds → DpAll K H vs ds
  | [], _, h => by cases h; exact .nil
  | d :: ds, _, h => by
    cases h with
    | cons h1 h2 => exact .cons (Rp.dp d _ h1) (RpAll.dp ds _ h2)
end
theorem RpAll.length {M : MS} {H : Hp} : ∀ {ds : List PyData} {vs : List V}, RpAll M H vs ds → vs.length = ds.length
  | [], _, h => by cases h; rfl
  | d :: ds, _, h => by
    cases h with
    | cons h1 h2 => rw [List.length_cons, List.length_cons, RpAll.length h2]
theorem RpAll.get {M : MS} {H : Hp} : ∀ {ds : List PyData} {vs : List V} {i : Nat} {d : PyData}, RpAll M H vs ds → ds[i]? = some d → ∃ v, vs[i]? = some v ∧ Rp M H v d
  | [], _, i, _, h, e => by simp at e
  | d :: ds, _, 0, _, h, e => by
    cases h with
    | cons h1 h2 =>
      cases (Option.some.inj e : d = _)
      exact ⟨_, rfl, h1⟩
  | d :: ds, _, i + 1, _, h, e => by
    cases h with
    | cons h1 h2 => exact RpAll.get (i := i) h2 e
theorem RpAll.getV {M : MS} {H : Hp} : ∀ {ds : List PyData} {vs : List V} {i : Nat} {v : V}, RpAll M H vs ds → vs[i]? = some v → ∃ d, ds[i]? = some d ∧ Rp M H v d
  | [], _, i, _, h, e => by cases h; simp at e
  | d :: ds, _, 0, _, h, e => by
    cases h with
    | cons h1 h2 =>
      cases (Option.some.inj e)
      exact ⟨_, rfl, h1⟩
  | d :: ds, _, i + 1, _, h, e => by
    cases h with
    | cons h1 h2 => exact RpAll.getV (i := i) h2 e
theorem RpAll.append {M : MS} {H : Hp} : ∀ {ds es : List PyData} {vs ws : List V}, RpAll M H vs ds → RpAll M H ws es → RpAll M H (vs ++ ws) (ds ++ es)
  | [], _, _, _, h, q => by cases h; exact q
  | d :: ds, _, _, _, h, q => by
    cases h with
    | cons h1 h2 => exact .cons h1 (RpAll.append h2 q)
theorem RpAll.set {M : MS} {H : Hp} {v : V} {d : PyData} (r : Rp M H v d) : ∀ {ds : List PyData} {vs : List V} (i : Nat), RpAll M H vs ds → RpAll M H (vs.set i v) (ds.set i d)
  | [], _, _, h => by cases h; exact .nil
  | e :: ds, _, 0, h => by
    cases h with
    | cons h1 h2 => exact .cons r h2
  | e :: ds, _, i + 1, h => by
    cases h with
    | cons h1 h2 => exact .cons h1 (RpAll.set r i h2)
theorem RpAll.take {M : MS} {H : Hp} : ∀ {ds : List PyData} {vs : List V} (i : Nat), RpAll M H vs ds → RpAll M H (vs.take i) (ds.take i)
  | [], _, i, h => by cases h; simp; exact .nil
  | e :: ds, _, 0, h => .nil
  | e :: ds, _, i + 1, h => by
    cases h with
    | cons h1 h2 => exact .cons h1 (RpAll.take i h2)
theorem RpAll.drop {M : MS} {H : Hp} : ∀ {ds : List PyData} {vs : List V} (i : Nat), RpAll M H vs ds → RpAll M H (vs.drop i) (ds.drop i)
  | [], _, i, h => by cases h; simp; exact .nil
  | e :: ds, _, 0, h => h
  | e :: ds, _, i + 1, h => by
    cases h with
    | cons h1 h2 => exact RpAll.drop i h2
theorem RpAll.reverse {M : MS} {H : Hp} : ∀ {ds : List PyData} {vs : List V}, RpAll M H vs ds → RpAll M H vs.reverse ds.reverse
  | [], _, h => by cases h; exact .nil
  | e :: ds, _, h => by
    cases h with
    | cons h1 h2 =>
      rw [List.reverse_cons, List.reverse_cons]
      exact (RpAll.reverse h2).append (.cons h1 .nil)
theorem RpAll.eraseIdx {M : MS} {H : Hp} : ∀ {ds : List PyData} {vs : List V} (i : Nat), RpAll M H vs ds → RpAll M H (vs.eraseIdx i) (ds.eraseIdx i)
  | [], _, i, h => by cases h; simp; exact .nil
  | e :: ds, _, 0, h => by
    cases h with
    | cons h1 h2 => exact h2
  | e :: ds, _, i + 1, h => by
    cases h with
    | cons h1 h2 => exact .cons h1 (RpAll.eraseIdx i h2)
theorem RpAll.ints {M : MS} {H : Hp} : ∀ (ns : List Int), RpAll M H (ns.map V.int) (ns.map PyData.int)
  | [] => .nil
  | n :: ns => .cons (.int n) (RpAll.ints ns)
theorem RpAll.int_inv {M : MS} {H : Hp} : ∀ {ns : List Int} {vs : List V}, RpAll M H vs (ns.map PyData.int) → vs = ns.map V.int
  | [], _, h => by cases h; rfl
  | n :: ns, _, h => by
    cases h with
    | cons h1 h2 => cases h1; rw [RpAll.int_inv h2]; rfl
theorem RpAll.bool_inv {M : MS} {H : Hp} : ∀ {ns : List Bool} {vs : List V}, RpAll M H vs (ns.map PyData.bool) → vs = ns.map V.bl
  | [], _, h => by cases h; rfl
  | n :: ns, _, h => by
    cases h with
    | cons h1 h2 => cases h1; rw [RpAll.bool_inv h2]; rfl

/-! ### dicts whose keys are tuples of ints, nested -/
mutual
def keyD : PyData → Option NestedKey
  | .int i => some (.num i)
  | .tuple xs => (keyDs xs).map .tup
  | .none => none
  | .bool _ => none
  | .str _ => none
  | .list _ => none
  | .dict _ => none
def keyDs : List PyData → Option (List NestedKey)
  | [] => some []
  | x :: xs => (keyD x).bind fun k => (keyDs xs).map fun ks => k :: ks
end
/-- the dict at a, its entries: key, the key's object, the value -/
def dctO (P : Program) (w : World) (a : Addr) (ep : Nat) (xs : List (NestedKey × Addr × Value)) : HO :=
  .ext fun h => ∃ o es, h.get? a = some o ∧ o.ExactDict ∧ o.data = .dict es ep ∧ es.toList = xs.map (entryOfKey (nestedKind P w))
inductive EntAll (M : MS) (H : Hp) : List (NestedKey × Addr × Value) → List (PyData × PyData) → Prop
  | nil : EntAll M H [] []
  | cons {k : NestedKey} {b : Addr} {u : Value} {v : V} {kd vd : PyData} {xs : List (NestedKey × Addr × Value)} {kvs : List (PyData × PyData)} :
      keyD kd = some k → k.depth ≤ 8 → Rp M H (.ref b) kd → RelV v u → Rp M H v vd → EntAll M H xs kvs → EntAll M H ((k, b, u) :: xs) ((kd, vd) :: kvs)
theorem EntAll.later {M M' : MS} {H H' : Hp} (L : Later M H M' H') {xs : List (NestedKey × Addr × Value)} {kvs : List (PyData × PyData)} (h : EntAll M H xs kvs) : EntAll M' H' xs kvs := by
  induction h with
  | nil => exact .nil
  | cons e dp r q s _ ih => exact .cons e dp (Rp.later L _ _ r) q (Rp.later L _ _ s) ih

/-! ### values and slots -/
inductive W where
  | dat (d : PyData)
  | tape
  | dct (kvs : List (PyData × PyData))
inductive Sl where
  | val (w : W)
  | own (ds : List PyData)
  | ownD (kvs : List (PyData × PyData))
def Sl.isOwn : Sl → Bool
  | .val _ => false
  | .own _ => true
  | .ownD _ => true
structure Tape where
  cells : List Int
  pos : Int
  cur : Int
structure Cf where
  P : Program
  w : World
  T : Addr
abbrev EnvD := List (Option Sl)

def DctAt (C : Cf) (M : MS) (H : Hp) (a : Addr) (kvs : List (PyData × PyData)) : Prop :=
  (a == sysModules) = false ∧ kvs.length ≤ sizeLine ∧ ∃ ep xs, H a = some (dctO C.P C.w a ep xs) ∧ (xs.map (·.1)).Nodup ∧ EntAll M H xs kvs
def Rw (C : Cf) (M : MS) (H : Hp) : W → V → Prop
  | .dat d, v => Rp M H v d
  | .tape, v => v = .ref C.T
  | .dct kvs, v => ∃ a, v = .ref a ∧ ¬ M a ∧ DctAt C M H a kvs
theorem DctAt.later {C : Cf} {M M' : MS} {H H' : Hp} {a : Addr} {kvs : List (PyData × PyData)} (L : Later M H M' H') (n : ¬ M a) (h : DctAt C M H a kvs) : DctAt C M' H' a kvs := by
  obtain ⟨h1, h2, ep, xs, e, nd, r⟩ := h
  exact ⟨h1, h2, ep, xs, L.keep _ _ e n, nd, r.later L⟩
theorem Rw.later {C : Cf} {M M' : MS} {H H' : Hp} {w : W} {v : V} (L : Later M H M' H') (h : Rw C M H w v) : Rw C M' H' w v := by
  cases w with
  | dat d => exact Rp.later L d v h
  | tape => exact h
  | dct kvs =>
    obtain ⟨a, rfl, n, q⟩ := h
    refine ⟨a, rfl, fun m => ?_, q.later L n⟩
    obtain ⟨_, _, _, xs, e, _⟩ := q
    rcases L.sub _ m with z | z
    · exact n z
    · rw [e] at z; cases z
inductive RwAll (C : Cf) (M : MS) (H : Hp) : List W → List V → Prop
  | nil : RwAll C M H [] []
  | cons {w : W} {v : V} {ws : List W} {vs : List V} : Rw C M H w v → RwAll C M H ws vs → RwAll C M H (w :: ws) (v :: vs)
theorem RwAll.later {C : Cf} {M M' : MS} {H H' : Hp} (L : Later M H M' H') {ws : List W} {vs : List V} (h : RwAll C M H ws vs) : RwAll C M' H' ws vs := by
  induction h with
  | nil => exact .nil
  | cons r _ ih => exact .cons (r.later L) ih
theorem RwAll.length {C : Cf} {M : MS} {H : Hp} {ws : List W} {vs : List V} (h : RwAll C M H ws vs) : vs.length = ws.length := by
  induction h with
  | nil => rfl
  | cons _ _ ih => rw [List.length_cons, List.length_cons, ih]

def TapeOk (T : Addr) (M : MS) (H : Hp) (τ : Tape) : Prop :=
  M T ∧ ∃ p, H T = some (.lst [.ref p, .int τ.pos, .int τ.cur]) ∧ H p = some (.lst (τ.cells.map V.int)) ∧ ¬ M p
theorem TapeOk.later {T : Addr} {M M' : MS} {H H' : Hp} {τ : Tape} (h : TapeOk T M H τ) (L : Later M H M' H') (m : M' T) (e : H' T = H T) : TapeOk T M' H' τ := by
  obtain ⟨_, p, h1, h2, h3⟩ := h
  refine ⟨m, p, e.trans h1, L.keep _ _ h2 h3, fun z => ?_⟩
  rcases L.sub _ z with q | q
  · exact h3 q
  · rw [h2] at q; cases q

def SlOk (C : Cf) (H0 : Hp) (M : MS) (H : Hp) : Sl → V → Prop
  | .val w, v => Rw C M H w v
  | .own ds, v => ∃ a xs, v = .ref a ∧ H a = some (.lst xs) ∧ M a ∧ H0 a = none ∧ RpAll M H xs ds
  | .ownD kvs, v => ∃ a, v = .ref a ∧ M a ∧ H0 a = none ∧ DctAt C M H a kvs

/-- the state: M0, H0 at the def's entry; M what is locked now -/
structure SI (C : Cf) (M0 : MS) (H0 : Hp) (M : MS) (ρ : EnvD) (τ : Tape) (σ : St) (H : Hp) : Prop where
  len : ρ.length = σ.length
  tp : TapeOk C.T M H τ
  m0 : ∀ b, M0 b → M b
  t0 : M0 C.T
  trk : ∀ b, M b → H b ≠ none
  trk0 : ∀ b, M0 b → H0 b ≠ none
  fr : ∀ b o, H0 b = some o → b ≠ C.T → H b = some o
  sl : ∀ (i : Nat) s, ρ[i]? = some (some s) → ∃ v, σ[i]? = some (some v) ∧ SlOk C H0 M H s v
  nd : ∀ (i j : Nat) s t v, ρ[i]? = some (some s) → ρ[j]? = some (some t) → s.isOwn = true → t.isOwn = true → σ[i]? = some (some v) → σ[j]? = some (some v) → i = j

/-- an expression's step: all but the tape's own object stays; fewer are locked -/
structure Ex (T : Addr) (M : MS) (H : Hp) (M' : MS) (H' : Hp) : Prop where
  keep : ∀ b o, H b = some o → b ≠ T → H' b = some o
  sub : ∀ b, M' b → M b
theorem Ex.refl (T : Addr) (M : MS) (H : Hp) : Ex T M H M H := ⟨fun _ _ e _ => e, fun _ m => m⟩
theorem Ex.trans {T : Addr} {M1 M2 M3 : MS} {H1 H2 H3 : Hp} (a : Ex T M1 H1 M2 H2) (b : Ex T M2 H2 M3 H3) : Ex T M1 H1 M3 H3 :=
  ⟨fun c o e n => b.keep c o (a.keep c o e n) n, fun c m => a.sub c (b.sub c m)⟩
theorem Ex.later {T : Addr} {M M' : MS} {H H' : Hp} (m : M T) (x : Ex T M H M' H') : Later M H M' H' :=
  ⟨fun b o e n => x.keep b o e fun z => n (by rw [z]; exact m), fun b q => .inl (x.sub b q)⟩
/-- only new objects -/
def Gr (H H' : Hp) : Prop := ∀ b o, H b = some o → H' b = some o
theorem Gr.refl (H : Hp) : Gr H H := fun _ _ e => e
theorem Gr.trans {H1 H2 H3 : Hp} (a : Gr H1 H2) (b : Gr H2 H3) : Gr H1 H3 := fun c o e => b c o (a c o e)
theorem Gr.upd {H : Hp} {p : Addr} {o : HO} (n : H p = none) : Gr H (upd H p o) := fun b u e => by rw [upd_ne (ne_of_none e n)]; exact e
theorem Gr.later {M : MS} {H H' : Hp} (g : Gr H H') : Later M H M H' := ⟨fun b o e _ => g b o e, fun _ m => .inl m⟩
theorem Gr.ex {T : Addr} {M : MS} {H H' : Hp} (g : Gr H H') : Ex T M H M H' := ⟨fun b o e _ => g b o e, fun _ m => m⟩

theorem SlOk.own_ne {C : Cf} {M0 : MS} {H0 : Hp} {M : MS} {H : Hp} {s : Sl} {v : V} (h : SlOk C H0 M H s v) (o : s.isOwn = true) (t : M0 C.T) (k : ∀ b, M0 b → H0 b ≠ none) : ∃ a, v = .ref a ∧ M a ∧ H0 a = none ∧ a ≠ C.T := by
  cases s with
  | val w => cases o
  | own ds =>
    obtain ⟨a, xs, rfl, e, m, n, _⟩ := h
    exact ⟨a, rfl, m, n, fun z => k _ t (by rw [← z]; exact n)⟩
  | ownD kvs =>
    obtain ⟨a, rfl, m, n, _⟩ := h
    exact ⟨a, rfl, m, n, fun z => k _ t (by rw [← z]; exact n)⟩
/-- slots by a step that keeps the owned objects -/
theorem SlOk.step {C : Cf} {H0 : Hp} {M M' : MS} {H H' : Hp} {s : Sl} {v : V} (h : SlOk C H0 M H s v) (L : Later M H M' H') (own : s.isOwn = true → ∀ a, v = .ref a → M' a ∧ H' a = H a) : SlOk C H0 M' H' s v := by
  cases s with
  | val w => exact Rw.later L h
  | own ds =>
    obtain ⟨a, xs, rfl, e, m, n, r⟩ := h
    obtain ⟨m', e'⟩ := own rfl a rfl
    exact ⟨a, xs, rfl, e'.trans e, m', n, RpAll.later L _ _ r⟩
  | ownD kvs =>
    obtain ⟨a, rfl, m, n, h1, h2, ep, xs, e, nd, r⟩ := h
    obtain ⟨m', e'⟩ := own rfl a rfl
    exact ⟨a, rfl, m', n, h1, h2, ep, xs, e'.trans e, nd, r.later L⟩
section
variable {C : Cf} {M0 : MS} {H0 : Hp} {M : MS} {ρ : EnvD} {τ : Tape} {σ : St} {H : Hp}
theorem SI.mt (S : SI C M0 H0 M ρ τ σ H) : M C.T := S.tp.1
theorem SI.fresh (S : SI C M0 H0 M ρ τ σ H) {p : Addr} (n : H p = none) : ¬ M p := fun m => S.trk p m n
theorem SI.fresh0 (S : SI C M0 H0 M ρ τ σ H) {p : Addr} (n : H p = none) : H0 p = none := by
  cases e : H0 p with
  | none => rfl
  | some o =>
    by_cases z : p = C.T
    · obtain ⟨_, q, h1, _⟩ := S.tp
      rw [z, h1] at n; cases n
    · rw [S.fr p o e z] at n; cases n
theorem SI.grow {H' : Hp} (S : SI C M0 H0 M ρ τ σ H) (g : Gr H H') : SI C M0 H0 M ρ τ σ H' := by
  have eq : ∀ b, M b → H' b = H b := fun b m => by
    cases e : H b with
    | none => exact absurd e (S.trk b m)
    | some o => exact g b o e
  refine ⟨S.len, S.tp.later g.later S.mt (eq _ S.mt), S.m0, S.t0, fun b m z => S.trk b m ((eq b m).symm.trans z), S.trk0, fun b o e n => g b o (S.fr b o e n), fun i s e => ?_, S.nd⟩
  obtain ⟨v, ev, q⟩ := S.sl i s e
  refine ⟨v, ev, q.step g.later fun o a ea => ?_⟩
  obtain ⟨a', ea', m, _⟩ := q.own_ne o S.t0 S.trk0
  rw [ea] at ea'; cases ea'
  exact ⟨m, eq a m⟩
/-- a new list (or dict) that is locked -/
theorem SI.lock {p : Addr} {o : HO} (S : SI C M0 H0 M ρ τ σ H) (n : H p = none) : SI C M0 H0 (fun b => M b ∨ b = p) ρ τ σ (upd H p o) := by
  have L : Later M H (fun b => M b ∨ b = p) (upd H p o) := ⟨fun b u e _ => Gr.upd n b u e, fun b m => by
    rcases m with m | m
    · exact .inl m
    · rw [m]; exact .inr n⟩
  have ne : ∀ b, M b → b ≠ p := fun b m z => S.fresh n (by rw [← z]; exact m)
  refine ⟨S.len, S.tp.later L (.inl S.mt) (upd_ne (ne _ S.mt)), fun b m => .inl (S.m0 b m), S.t0, fun b m => ?_, S.trk0, fun b u e z => Gr.upd n b u (S.fr b u e z), fun i s e => ?_, S.nd⟩
  · rcases m with m | m
    · rw [upd_ne (ne b m)]; exact S.trk b m
    · rw [m, upd_same]; exact fun z => by cases z
  · obtain ⟨v, ev, q⟩ := S.sl i s e
    refine ⟨v, ev, q.step L fun o a ea => ?_⟩
    obtain ⟨a', ea', m, _⟩ := q.own_ne o S.t0 S.trk0
    rw [ea] at ea'; cases ea'
    exact ⟨.inl m, upd_ne (ne a m)⟩
/-- an address that no slot owns is unlocked -/
theorem SI.unlock {p : Addr} (S : SI C M0 H0 M ρ τ σ H) (n0 : H0 p = none) (no : ∀ (i : Nat) s, ρ[i]? = some (some s) → s.isOwn = true → σ[i]? ≠ some (some (.ref p))) : SI C M0 H0 (fun b => M b ∧ b ≠ p) ρ τ σ H := by
  have L : Later M H (fun b => M b ∧ b ≠ p) H := ⟨fun b u e _ => e, fun b m => .inl m.1⟩
  have nT : C.T ≠ p := fun z => S.trk0 _ S.t0 (by rw [z]; exact n0)
  refine ⟨S.len, S.tp.later L ⟨S.mt, nT⟩ rfl, fun b m => ⟨S.m0 b m, fun z => S.trk0 b m (by rw [z]; exact n0)⟩, S.t0, fun b m => S.trk b m.1, S.trk0, S.fr, fun i s e => ?_, S.nd⟩
  obtain ⟨v, ev, q⟩ := S.sl i s e
  refine ⟨v, ev, q.step L fun o a ea => ?_⟩
  obtain ⟨a', ea', m, _⟩ := q.own_ne o S.t0 S.trk0
  rw [ea] at ea'; cases ea'
  refine ⟨⟨m, fun z => ?_⟩, rfl⟩
  exact no i s e o (by rw [ev, ea, z])
/-- the environment otherwise, slot by slot: same or forgotten -/
theorem SI.weak {ρ' : EnvD} {σ' : St} (S : SI C M0 H0 M ρ τ σ H) (hlen : ρ'.length = σ'.length) (h : ∀ (i : Nat) s, ρ'[i]? = some (some s) → ρ[i]? = some (some s) ∧ σ'[i]? = σ[i]?) : SI C M0 H0 M ρ' τ σ' H :=
  ⟨hlen, S.tp, S.m0, S.t0, S.trk, S.trk0, S.fr, fun i s e => by
    obtain ⟨e1, e2⟩ := h i s e
    rw [e2]
    exact S.sl i s e1, fun i j s t v e1 e2 o1 o2 z1 z2 => S.nd i j s t v (h i s e1).1 (h j t e2).1 o1 o2 ((h i s e1).2 ▸ z1) ((h j t e2).2 ▸ z2)⟩
theorem get_set {α : Type} {l : List (Option α)} {i j : Nat} {x : Option α} {s : α} (h : (l.set i x)[j]? = some (some s)) : (j = i ∧ x = some s ∧ i < l.length) ∨ (j ≠ i ∧ l[j]? = some (some s)) := by
  by_cases e : i = j
  · subst e
    by_cases hl : i < l.length
    · rw [List.getElem?_set_self hl] at h
      exact .inl ⟨rfl, Option.some.inj h, hl⟩
    · rw [List.getElem?_eq_none (by rw [List.length_set]; omega)] at h
      cases h
  · rw [List.getElem?_set_ne e] at h
    exact .inr ⟨fun z => e z.symm, h⟩
/-- a slot is stored -/
theorem SI.put {i : Nat} {s : Option Sl} {v : V} (S : SI C M0 H0 M ρ τ σ H) (h : ∀ z, s = some z → SlOk C H0 M H z v ∧ (z.isOwn = true → ∀ (j : Nat) t, ρ[j]? = some (some t) → t.isOwn = true → j ≠ i → σ[j]? ≠ some (some v))) :
    SI C M0 H0 M (ρ.set i s) τ (σ.set i (some v)) H := by
  by_cases hl : i < σ.length
  case neg =>
    have e1 : ρ.set i s = ρ := List.set_eq_of_length_le (by rw [S.len]; omega)
    have e2 : σ.set i (some v) = σ := List.set_eq_of_length_le (by omega)
    rw [e1, e2]
    exact S
  refine ⟨by rw [List.length_set, List.length_set]; exact S.len, S.tp, S.m0, S.t0, S.trk, S.trk0, S.fr, fun j t e => ?_, fun j k t u v' e1 e2 o1 o2 z1 z2 => ?_⟩
  · rcases get_set e with ⟨rfl, e', _⟩ | ⟨ne, e'⟩
    · exact ⟨v, List.getElem?_set_self hl, (h t e').1⟩
    · rw [List.getElem?_set_ne (Ne.symm ne)]
      exact S.sl j t e'
  · rcases get_set e1 with ⟨rfl, e1', _⟩ | ⟨n1, e1'⟩ <;> rcases get_set e2 with ⟨rfl, e2', _⟩ | ⟨n2, e2'⟩
    · rfl
    · rw [List.getElem?_set_self hl] at z1
      rw [List.getElem?_set_ne (Ne.symm n2)] at z2
      cases z1
      exact absurd z2 ((h t e1').2 o1 k u e2' o2 n2)
    · rw [List.getElem?_set_self hl] at z2
      rw [List.getElem?_set_ne (Ne.symm n1)] at z1
      cases z2
      exact absurd z1 ((h u e2').2 o2 j t e1' o1 n1)
    · rw [List.getElem?_set_ne (Ne.symm n1)] at z1
      rw [List.getElem?_set_ne (Ne.symm n2)] at z2
      exact S.nd j k t u v' e1' e2' o1 o2 z1 z2
theorem SI.putVal {i : Nat} {w : W} {v : V} (S : SI C M0 H0 M ρ τ σ H) (h : Rw C M H w v) : SI C M0 H0 M (ρ.set i (some (.val w))) τ (σ.set i (some v)) H :=
  S.put fun z e => by cases e; exact ⟨h, fun o => by cases o⟩
/-- the slot i is known otherwise (no store) -/
theorem SI.know {i : Nat} {s : Sl} {v : V} (S : SI C M0 H0 M ρ τ σ H) (ev : σ[i]? = some (some v)) (h : SlOk C H0 M H s v) (no : s.isOwn = true → ∀ (j : Nat) t, ρ[j]? = some (some t) → t.isOwn = true → j ≠ i → σ[j]? ≠ some (some v)) : SI C M0 H0 M (ρ.set i (some s)) τ σ H := by
  have q := S.put (i := i) (s := some s) (v := v) fun z e => by cases e; exact ⟨h, no⟩
  have es : σ.set i (some v) = σ := by
    refine List.ext_getElem? fun j => ?_
    by_cases e : i = j
    · subst e
      rw [List.getElem?_set_self (List.getElem?_eq_some_iff.mp ev).1, ev]
    · rw [List.getElem?_set_ne e]
  rw [es] at q
  exact q
end
end ND

set_option Elab.async false
set_option linter.all false
set_option maxRecDepth 100000
set_option maxHeartbeats 4000000
/-! ND2: the judgements of expressions over data. -/
namespace ND
open PySem PySem.Spec L2
open PyProof.Rows hiding St

theorem _root_.L2.PE.mono {X : Cx} {e : Expr} {t t' : TE} (h : PE X e t) (i : ∀ σ H Q, t' σ H Q → t σ H Q) : PE X e t' := ⟨fun pins s σ H Q I q => h.run pins s σ H Q I (i σ H Q q)⟩
theorem _root_.L2.PT.mono {X : Cx} {e : Expr} {t t' : TT} (h : PT X e t) (i : ∀ σ H Q, t' σ H Q → t σ H Q) : PT X e t' := ⟨fun pins s σ H Q I q => h.run pins s σ H Q I (i σ H Q q)⟩
theorem _root_.L2.PA.mono {X : Cx} {e : List Expr} {t t' : TA} (h : PA X e t) (i : ∀ σ H Q, t' σ H Q → t σ H Q) : PA X e t' := ⟨fun pos pins s σ H Q I q => h.run pos pins s σ H Q I (i σ H Q q)⟩
theorem _root_.L2.PW.mono {X : Cx} {e : Expr} {t t' : TT} (h : PW X e t) (i : ∀ σ H Q, t' σ H Q → t σ H Q) : PW X e t' := ⟨fun wh pins s σ H Q I q => h.run wh pins s σ H Q I (i σ H Q q)⟩
theorem _root_.L2.PO.mono {X : Cx} {e : Option Expr} {t t' : TO} (h : PO X e t) (i : ∀ σ H Q, t' σ H Q → t σ H Q) : PO X e t' := ⟨fun pins s σ H Q I q => h.run pins s σ H Q I (i σ H Q q)⟩

abbrev EF := EnvD → Tape → Option (W × EnvD × Tape)
abbrev BF := EnvD → Tape → Option (Bool × EnvD × Tape)
abbrev AF := EnvD → Tape → Option (List W × EnvD × Tape)
abbrev cf (X : Cx) (T : Addr) : Cf := ⟨X.prog, X.w, T⟩

/-- a value that is read at once: a list (or dict) may be a locked one -/
def RB (C : Cf) (M : MS) (H : Hp) : W → V → Prop
  | .dat (.list ds), v => ∃ a xs, v = .ref a ∧ H a = some (.lst xs) ∧ a ≠ C.T ∧ RpAll M H xs ds
  | .dct kvs, v => ∃ a, v = .ref a ∧ a ≠ C.T ∧ DctAt C M H a kvs
  | .dat d, v => Rp M H v d
  | .tape, v => v = .ref C.T
theorem Rw.rb {C : Cf} {M : MS} {H : Hp} {w : W} {v : V} (m : M C.T) (h : Rw C M H w v) : RB C M H w v := by
  cases w with
  | tape => exact h
  | dct kvs =>
    obtain ⟨a, rfl, n, q⟩ := h
    exact ⟨a, rfl, fun z => n (by rw [z]; exact m), q⟩
  | dat d =>
    cases d with
    | list ds =>
      cases (show Rp M H v (.list ds) from h) with
      | lst e n r => exact ⟨_, _, rfl, e, fun z => n (by rw [z]; exact m), r⟩
    | _ => exact h
theorem RB.ex {C : Cf} {M M' : MS} {H H' : Hp} {w : W} {v : V} (m : M C.T) (x : Ex C.T M H M' H') (h : RB C M H w v) : RB C M' H' w v := by
  have L := x.later m
  cases w with
  | tape => exact h
  | dct kvs =>
    obtain ⟨a, rfl, n, h1, h2, ep, xs, e, nd, r⟩ := h
    exact ⟨a, rfl, n, h1, h2, ep, xs, x.keep _ _ e n, nd, r.later L⟩
  | dat d =>
    cases d with
    | list ds =>
      obtain ⟨a, xs, rfl, e, n, r⟩ := h
      exact ⟨a, xs, rfl, x.keep _ _ e n, n, RpAll.later L _ _ r⟩
    | none => exact Rp.later L _ _ h
    | bool _ => exact Rp.later L _ _ h
    | int _ => exact Rp.later L _ _ h
    | str _ => exact Rp.later L _ _ h
    | tuple _ => exact Rp.later L _ _ h
    | dict _ => exact Rp.later L _ _ h
inductive RBAll (C : Cf) (M : MS) (H : Hp) : List W → List V → Prop
  | nil : RBAll C M H [] []
  | cons {w : W} {v : V} {ws : List W} {vs : List V} : RB C M H w v → RBAll C M H ws vs → RBAll C M H (w :: ws) (v :: vs)
theorem RB.dp {C : Cf} {K : PySem.W.Frag} {M : MS} {H : Hp} {d : PyData} {v : V} (h : RB C M H (.dat d) v) : Dp K H v d := by
  cases d with
  | list ds =>
    obtain ⟨a, xs, rfl, e, n, r⟩ := h
    exact .lst (SqL.of e) (RpAll.dp _ _ r)
  | none => exact Rp.dp _ _ h
  | bool _ => exact Rp.dp _ _ h
  | int _ => exact Rp.dp _ _ h
  | str _ => exact Rp.dp _ _ h
  | tuple _ => exact Rp.dp _ _ h
  | dict _ => cases (show Rp M H v _ from h)

def tD (X : Cx) (f : EF) : TE := fun σ H Q => ∃ T M0 H0 M ρ τ w ρ' τ', SI (cf X T) M0 H0 M ρ τ σ H ∧ f ρ τ = some (w, ρ', τ') ∧
  ∀ v M' H', SI (cf X T) M0 H0 M' ρ' τ' σ H' → Ex T M H M' H' → Rw (cf X T) M' H' w v → Q v H'
def tDB (X : Cx) (f : EF) : TE := fun σ H Q => ∃ T M0 H0 M ρ τ w ρ' τ', SI (cf X T) M0 H0 M ρ τ σ H ∧ f ρ τ = some (w, ρ', τ') ∧
  ∀ v M' H', SI (cf X T) M0 H0 M' ρ' τ' σ H' → Ex T M H M' H' → RB (cf X T) M' H' w v → Q v H'
def tDT (X : Cx) (f : BF) : TT := fun σ H Q => ∃ T M0 H0 M ρ τ b ρ' τ', SI (cf X T) M0 H0 M ρ τ σ H ∧ f ρ τ = some (b, ρ', τ') ∧
  ∀ M' H', SI (cf X T) M0 H0 M' ρ' τ' σ H' → Ex T M H M' H' → Q b H'
def tDA (X : Cx) (f : AF) : TA := fun σ H Q => ∃ T M0 H0 M ρ τ ws ρ' τ', SI (cf X T) M0 H0 M ρ τ σ H ∧ f ρ τ = some (ws, ρ', τ') ∧
  ∀ vs M' H', SI (cf X T) M0 H0 M' ρ' τ' σ H' → Ex T M H M' H' → RwAll (cf X T) M' H' ws vs → Q vs H'
def tDAB (X : Cx) (f : AF) : TA := fun σ H Q => ∃ T M0 H0 M ρ τ ws ρ' τ', SI (cf X T) M0 H0 M ρ τ σ H ∧ f ρ τ = some (ws, ρ', τ') ∧
  ∀ vs M' H', SI (cf X T) M0 H0 M' ρ' τ' σ H' → Ex T M H M' H' → RBAll (cf X T) M' H' ws vs → Q vs H'
/-- a new list, locked, that no slot has -/
def tDF (X : Cx) (f : EnvD → Tape → Option (List PyData × EnvD × Tape)) : TE := fun σ H Q => ∃ T M0 H0 M ρ τ ds ρ' τ', SI (cf X T) M0 H0 M ρ τ σ H ∧ f ρ τ = some (ds, ρ', τ') ∧
  ∀ a xs M' H', SI (cf X T) M0 H0 M' ρ' τ' σ H' → (∀ b o, H b = some o → b ≠ T → H' b = some o) → (∀ b, M' b → M b ∨ b = a) → H a = none → M' a → H' a = some (.lst xs) → RpAll M' H' xs ds → Q (.ref a) H'
def DE (X : Cx) (e : Expr) (f : EF) : Prop := PE X e (tD X f)
def DB (X : Cx) (e : Expr) (f : EF) : Prop := PE X e (tDB X f)
def DT (X : Cx) (e : Expr) (f : BF) : Prop := PT X e (tDT X f)
def DA (X : Cx) (es : List Expr) (f : AF) : Prop := PA X es (tDA X f)
def DAB (X : Cx) (es : List Expr) (f : AF) : Prop := PA X es (tDAB X f)
def DF (X : Cx) (e : Expr) (f : EnvD → Tape → Option (List PyData × EnvD × Tape)) : Prop := PE X e (tDF X f)

section
variable {X : Cx} {e a b : Expr} {f g : EF} {pos : Pos}
theorem db_of (h : DE X e f) : DB X e f := h.mono fun σ H Q ⟨T, M0, H0, M, ρ, τ, w, ρ', τ', S, ef, k⟩ =>
  ⟨T, M0, H0, M, ρ, τ, w, ρ', τ', S, ef, fun v M' H' S' x r => k v M' H' S' x (r.rb S'.mt)⟩
/-- an owned list is of no other slot -/
theorem SI.own_alone {C : Cf} {M0 : MS} {H0 : Hp} {M : MS} {ρ : EnvD} {τ : Tape} {σ : St} {H : Hp} (S : SI C M0 H0 M ρ τ σ H) {i : Nat} {s : Sl} {v : V} (e : ρ[i]? = some (some s)) (o : s.isOwn = true) (ev : σ[i]? = some (some v)) :
    ∀ (j : Nat) t, ρ[j]? = some (some t) → t.isOwn = true → j ≠ i → σ[j]? ≠ some (some v) := fun j t ej oj ne z => ne (S.nd j i t s v ej e oj o z ev)
def asData (ds : List PyData) : W := .dat (.list ds)
/-- reading a name: an owned list is given up -/
def var (i : Nat) : EF := fun ρ τ => match ρ[i]? with
  | some (some (.val w)) => some (w, ρ, τ)
  | some (some (.own ds)) => some (.dat (.list ds), ρ.set i (some (.val (.dat (.list ds)))), τ)
  | some (some (.ownD kvs)) => some (.dct kvs, ρ.set i (some (.val (.dct kvs))), τ)
  | _ => none
/-- reading a name for a moment -/
def bvar (i : Nat) : EF := fun ρ τ => match ρ[i]? with
  | some (some (.val w)) => some (w, ρ, τ)
  | some (some (.own ds)) => some (.dat (.list ds), ρ, τ)
  | some (some (.ownD kvs)) => some (.dct kvs, ρ, τ)
  | _ => none
theorem db_var (i : Nat) {x : Str} (hN : X.N[i]? = some x := by rfl) (hv : Vis X.env.scope x := by first | exact Or.inl rfl | exact Or.inr (Or.inl rfl) | exact Or.inr (Or.inr rfl)) (hd : (x == ("__debug__" : Str)) = false := by decide)
    (hcd : (x == ("__classdict__" : Str)) = false := by decide) : DB X (.Name x pos) (bvar i) := by
  refine (pe_var (X := X) (pos := pos) hN hv hd hcd).mono fun σ H Q h => ?_
  obtain ⟨T, M0, H0, M, ρ, τ, w, ρ', τ', S, ef, k⟩ := h
  unfold bvar at ef
  split at ef
  · next w' e =>
    cases ef
    obtain ⟨v, ev, q⟩ := S.sl i _ e
    exact ⟨v, ev, k v M H S (Ex.refl ..) (Rw.rb S.mt q)⟩
  · next ds e =>
    cases ef
    obtain ⟨v, ev, q⟩ := S.sl i _ e
    obtain ⟨a', e1, m1, n1, nT⟩ := q.own_ne rfl S.t0 S.trk0
    obtain ⟨a, xs, rfl, e2, m, n, r⟩ := q
    cases e1
    exact ⟨_, ev, k _ M H S (Ex.refl ..) ⟨_, xs, rfl, e2, nT, r⟩⟩
  · next kvs e =>
    cases ef
    obtain ⟨v, ev, q⟩ := S.sl i _ e
    obtain ⟨a', e1, m1, n1, nT⟩ := q.own_ne rfl S.t0 S.trk0
    obtain ⟨a, rfl, m, n, r⟩ := q
    cases e1
    exact ⟨_, ev, k _ M H S (Ex.refl ..) ⟨_, rfl, nT, r⟩⟩
  · cases ef
/-- an owned list is given up -/
theorem SI.give {C : Cf} {M0 : MS} {H0 : Hp} {M : MS} {ρ : EnvD} {τ : Tape} {σ : St} {H : Hp} (S : SI C M0 H0 M ρ τ σ H) {i : Nat} {a : Addr} {w : W} {s : Sl} (e : ρ[i]? = some (some s)) (o : s.isOwn = true) (ev : σ[i]? = some (some (.ref a))) (n0 : H0 a = none)
    (hw : Rw C (fun b => M b ∧ b ≠ a) H w (.ref a)) : SI C M0 H0 (fun b => M b ∧ b ≠ a) (ρ.set i (some (.val w))) τ σ H := by
  have S1 : SI C M0 H0 M (ρ.set i none) τ σ H := S.weak (by rw [List.length_set]; exact S.len) fun j t ej => by
    rcases get_set ej with ⟨_, z, _⟩ | ⟨ne, z⟩
    · cases z
    · exact ⟨z, rfl⟩
  have S2 := S1.unlock n0 fun j t ej oj => by
    rcases get_set ej with ⟨_, z, _⟩ | ⟨ne, z⟩
    · cases z
    · exact S.own_alone e o ev j t z oj ne
  have S3 := S2.know (i := i) (s := .val w) ev hw fun z => by cases z
  rw [List.set_set] at S3
  exact S3
theorem de_var (i : Nat) {x : Str} (hN : X.N[i]? = some x := by rfl) (hv : Vis X.env.scope x := by first | exact Or.inl rfl | exact Or.inr (Or.inl rfl) | exact Or.inr (Or.inr rfl)) (hd : (x == ("__debug__" : Str)) = false := by decide)
    (hcd : (x == ("__classdict__" : Str)) = false := by decide) : DE X (.Name x pos) (var i) := by
  refine (pe_var (X := X) (pos := pos) hN hv hd hcd).mono fun σ H Q h => ?_
  obtain ⟨T, M0, H0, M, ρ, τ, w, ρ', τ', S, ef, k⟩ := h
  unfold var at ef
  split at ef
  · next w' e =>
    cases ef
    obtain ⟨v, ev, q⟩ := S.sl i _ e
    exact ⟨v, ev, k v M H S (Ex.refl ..) q⟩
  · next ds e =>
    cases ef
    obtain ⟨v, ev, q⟩ := S.sl i _ e
    obtain ⟨a, xs, rfl, e2, m, n, r⟩ := q
    have L : Later M H (fun b => M b ∧ b ≠ a) H := ⟨fun _ _ e _ => e, fun b m => .inl m.1⟩
    have hw : Rw (cf X T) (fun b => M b ∧ b ≠ a) H (.dat (.list ds)) (.ref a) := Rp.lst e2 (fun z => z.2 rfl) (RpAll.later L _ _ r)
    exact ⟨_, ev, k _ _ H (S.give e rfl ev n hw) ⟨fun _ _ e _ => e, fun _ m => m.1⟩ hw⟩
  · next kvs e =>
    cases ef
    obtain ⟨v, ev, q⟩ := S.sl i _ e
    obtain ⟨a, rfl, m, n, h1, h2, ep, xs, e2, nd, r⟩ := q
    have L : Later M H (fun b => M b ∧ b ≠ a) H := ⟨fun _ _ e _ => e, fun b m => .inl m.1⟩
    have hw : Rw (cf X T) (fun b => M b ∧ b ≠ a) H (.dct kvs) (.ref a) := ⟨a, rfl, fun z => z.2 rfl, h1, h2, ep, xs, e2, nd, r.later L⟩
    exact ⟨_, ev, k _ _ H (S.give e rfl ev n hw) ⟨fun _ _ e _ => e, fun _ m => m.1⟩ hw⟩
  · cases ef
/-- a constant -/
def cst (d : PyData) : EF := fun ρ τ => some (.dat d, ρ, τ)
theorem de_cst {v : V} {d : PyData} (h : PE X e (tC v)) (r : ∀ M H, Rp M H v d) : DE X e (cst d) := h.mono fun σ H Q ⟨T, M0, H0, M, ρ, τ, w, ρ', τ', S, ef, k⟩ => by
  cases ef
  exact k v M H S (Ex.refl ..) (r M H)
theorem de_int {i : Int} {j} : DE X (.Constant (.int i) j pos) (cst (.int i)) := de_cst pe_int fun _ _ => .int i
theorem de_str {x : Str} {j} : DE X (.Constant (.str x) j pos) (cst (.str x)) := de_cst pe_str fun _ _ => .str x
theorem de_bl {x : Bool} {j} : DE X (.Constant (.bool x) j pos) (cst (.bool x)) := de_cst pe_bl fun _ _ => .bl x
theorem de_non {j} : DE X (.Constant .none j pos) (cst .none) := de_cst pe_non fun _ _ => .non
theorem de_glI {x : Str} {i : Int} {t : Tok} (hg : Gl X x) (hm : X.mg x = some (.int i t)) (hd : (x == ("__debug__" : Str)) = false := by decide) : DE X (.Name x pos) (cst (.int i)) := de_cst (v := .int i) (pe_glob hg hm ⟨t, rfl⟩ hd) fun _ _ => .int i
theorem de_glN {x : Str} (hg : Gl X x) (hm : X.mg x = some .none) (hd : (x == ("__debug__" : Str)) = false := by decide) : DE X (.Name x pos) (cst .none) := de_cst (v := .non) (pe_glob hg hm rfl hd) fun _ _ => .non

/-! ### operations on data -/
def op2 (F : W → W → Option W) (f g : EF) : EF := fun ρ τ => (f ρ τ).bind fun r => (g r.2.1 r.2.2).bind fun q => (F r.1 q.1).map fun w => (w, q.2.1, q.2.2)
def OpD (X : Cx) (r : R2) (F : W → W → Option W) : Prop := ∀ (T : Addr) (M : MS) (H : Hp) (w1 w2 w : W) (v1 v2 : V) (Q : VK), F w1 w2 = some w → (∀ b, M b → H b ≠ none) → M T → RB (cf X T) M H w1 v1 → RB (cf X T) M H w2 v2 →
  (∀ v H', Gr H H' → Rw (cf X T) M H' w v → Q v H') → r v1 v2 H Q
theorem op2_td {r : R2} {F : W → W → Option W} (hd : OpD X r F) {σ : St} {H : Hp} {Q : VK} (h : tD X (op2 F f g) σ H Q) : tOp r (tDB X f) (tDB X g) σ H Q := by
  obtain ⟨T, M0, H0, M, ρ, τ, w, ρ', τ', S, ef, k⟩ := h
  unfold op2 at ef
  cases e1 : f ρ τ with
  | none => rw [e1] at ef; cases ef
  | some p =>
    obtain ⟨w1, ρ1, τ1⟩ := p
    rw [e1] at ef
    simp only [Option.bind_some] at ef
    cases e2 : g ρ1 τ1 with
    | none => rw [e2] at ef; cases ef
    | some p =>
      obtain ⟨w2, ρ2, τ2⟩ := p
      rw [e2] at ef
      simp only [Option.bind_some] at ef
      cases e3 : F w1 w2 with
      | none => rw [e3] at ef; cases ef
      | some w' =>
        rw [e3] at ef
        cases ef
        refine ⟨T, M0, H0, M, ρ, τ, w1, ρ1, τ1, S, e1, fun v1 M1 H1 S1 x1 r1 => ?_⟩
        refine ⟨T, M0, H0, M1, ρ1, τ1, w2, _, _, S1, e2, fun v2 M2 H2 S2 x2 r2 => ?_⟩
        refine hd T M2 H2 w1 w2 _ v1 v2 Q e3 S2.trk S2.mt (r1.ex S1.mt x2) r2 fun v H' gr rr => ?_
        exact k v M2 H' (S2.grow gr) ((x1.trans x2).trans gr.ex) rr
theorem de_bin {op : Operator} {r : R2} {F : W → W → Option W} (ho : OpR X (binaryOp op) r) (hd : OpD X r F) (ha : DB X a f) (hb : DB X b g) : DE X (.BinOp a op b pos) (op2 F f g) :=
  (pe_op ho ha hb).mono fun _ _ _ h => op2_td hd h
theorem de_cmp {op : CmpOp} {r : R2} {F : W → W → Option W} (ho : OpR X (compareOp op) r) (hd : OpD X r F) (ha : DB X a f) (hb : DB X b g) (hm : behindInMarks op b = false) : DE X (.Compare a [op] [b] pos) (op2 F f g) :=
  (pe_cmpR ho ha hb hm).mono fun _ _ _ h => op2_td hd h
theorem de_ix {r : R2} {F : W → W → Option W} (ho : IxR X r) (hd : OpD X r F) (ha : DB X a f) (hb : DB X b g) (hs : PlainIx b) : DE X (.Subscript a b pos) (op2 F f g) :=
  (pe_ix ho ha hb hs).mono fun _ _ _ h => op2_td hd h
def un1 (F : W → Option W) (f : EF) : EF := fun ρ τ => (f ρ τ).bind fun r => (F r.1).map fun w => (w, r.2.1, r.2.2)
def UnD (X : Cx) (r : V → Hp → VK → Prop) (F : W → Option W) : Prop := ∀ (T : Addr) (M : MS) (H : Hp) (w1 w : W) (v1 : V) (Q : VK), F w1 = some w → (∀ b, M b → H b ≠ none) → M T → RB (cf X T) M H w1 v1 →
  (∀ v H', Gr H H' → Rw (cf X T) M H' w v → Q v H') → r v1 H Q
theorem un1_td {r : V → Hp → VK → Prop} {F : W → Option W} (hd : UnD X r F) {σ : St} {H : Hp} {Q : VK} (h : tD X (un1 F f) σ H Q) : tUn r (tDB X f) σ H Q := by
  obtain ⟨T, M0, H0, M, ρ, τ, w, ρ', τ', S, ef, k⟩ := h
  unfold un1 at ef
  cases e1 : f ρ τ with
  | none => rw [e1] at ef; cases ef
  | some p =>
    obtain ⟨w1, ρ1, τ1⟩ := p
    rw [e1] at ef
    simp only [Option.bind_some] at ef
    cases e3 : F w1 with
    | none => rw [e3] at ef; cases ef
    | some w' =>
      rw [e3] at ef
      cases ef
      refine ⟨T, M0, H0, M, ρ, τ, w1, _, _, S, e1, fun v1 M1 H1 S1 x1 r1 => ?_⟩
      refine hd T M1 H1 w1 _ v1 Q e3 S1.trk S1.mt r1 fun v H' gr rr => ?_
      exact k v M1 H' (S1.grow gr) (x1.trans gr.ex) rr
def negF : W → Option W
  | .dat (.int i) => some (.dat (.int (-i)))
  | _ => none
theorem de_neg (ha : DB X a f) : DE X (.UnaryOp .USub a pos) (un1 negF f) := (pe_un un_neg ha).mono fun _ _ _ h => un1_td (fun T M H w1 w v1 Q e _ _ r k => by
  unfold negF at e
  split at e
  · cases e
    cases (show Rp M H v1 _ from r)
    exact ⟨_, rfl, k _ H (Gr.refl H) (Rp.int _)⟩
  · cases e) h

/-! ### argument lists -/
def nilA : AF := fun ρ τ => some ([], ρ, τ)
def consA (f : EF) (g : AF) : AF := fun ρ τ => (f ρ τ).bind fun r => (g r.2.1 r.2.2).map fun q => (r.1 :: q.1, q.2.1, q.2.2)
theorem da_nil : DA X [] nilA := pa_nil.mono fun σ H Q ⟨T, M0, H0, M, ρ, τ, w, ρ', τ', S, ef, k⟩ => by
  cases ef
  exact k [] M H S (Ex.refl ..) .nil
theorem dab_nil : DAB X [] nilA := pa_nil.mono fun σ H Q ⟨T, M0, H0, M, ρ, τ, w, ρ', τ', S, ef, k⟩ => by
  cases ef
  exact k [] M H S (Ex.refl ..) .nil
variable {es : List Expr} {h : AF}
theorem da_cons (ha : DE X a f) (hr : DA X es h) (hs : starEach (a :: es) X.env = (false, eval a X.env) :: starEach es X.env := by rfl) : DA X (a :: es) (consA f h) :=
  (pa_cons ha hr hs).mono fun σ H Q ⟨T, M0, H0, M, ρ, τ, w, ρ', τ', S, ef, k⟩ => by
    unfold consA at ef
    cases e1 : f ρ τ with
    | none => rw [e1] at ef; cases ef
    | some p =>
      obtain ⟨w1, ρ1, τ1⟩ := p
      rw [e1] at ef
      simp only [Option.bind_some] at ef
      cases e2 : h ρ1 τ1 with
      | none => rw [e2] at ef; cases ef
      | some p =>
        obtain ⟨ws, ρ2, τ2⟩ := p
        rw [e2] at ef
        cases ef
        refine ⟨T, M0, H0, M, ρ, τ, w1, ρ1, τ1, S, e1, fun v1 M1 H1 S1 x1 r1 => ?_⟩
        refine ⟨T, M0, H0, M1, ρ1, τ1, ws, _, _, S1, e2, fun vs M2 H2 S2 x2 r2 => ?_⟩
        exact k _ M2 H2 S2 (x1.trans x2) (.cons (r1.later (x2.later S1.mt)) r2)
theorem dab_cons (ha : DB X a f) (hr : DAB X es h) (hs : starEach (a :: es) X.env = (false, eval a X.env) :: starEach es X.env := by rfl) : DAB X (a :: es) (consA f h) :=
  (pa_cons ha hr hs).mono fun σ H Q ⟨T, M0, H0, M, ρ, τ, w, ρ', τ', S, ef, k⟩ => by
    unfold consA at ef
    cases e1 : f ρ τ with
    | none => rw [e1] at ef; cases ef
    | some p =>
      obtain ⟨w1, ρ1, τ1⟩ := p
      rw [e1] at ef
      simp only [Option.bind_some] at ef
      cases e2 : h ρ1 τ1 with
      | none => rw [e2] at ef; cases ef
      | some p =>
        obtain ⟨ws, ρ2, τ2⟩ := p
        rw [e2] at ef
        cases ef
        refine ⟨T, M0, H0, M, ρ, τ, w1, ρ1, τ1, S, e1, fun v1 M1 H1 S1 x1 r1 => ?_⟩
        refine ⟨T, M0, H0, M1, ρ1, τ1, ws, _, _, S1, e2, fun vs M2 H2 S2 x2 r2 => ?_⟩
        exact k _ M2 H2 S2 (x1.trans x2) (.cons (r1.ex S1.mt x2) r2)
/-- a built-in called -/
def callF (F : List W → Option W) (h : AF) : EF := fun ρ τ => (h ρ τ).bind fun r => (F r.1).map fun w => (w, r.2.1, r.2.2)
def CallD (X : Cx) (r : List V → Hp → VK → Prop) (F : List W → Option W) : Prop := ∀ (T : Addr) (M : MS) (H : Hp) (ws : List W) (w : W) (vs : List V) (Q : VK), F ws = some w → (∀ b, M b → H b ≠ none) → M T → RBAll (cf X T) M H ws vs →
  (∀ v H', Gr H H' → Rw (cf X T) M H' w v → Q v H') → r vs H Q
theorem call_td {r : List V → Hp → VK → Prop} {F : List W → Option W} (hd : CallD X r F) {σ : St} {H : Hp} {Q : VK} (hh : tD X (callF F h) σ H Q) : tCB r (tDAB X h) σ H Q := by
  obtain ⟨T, M0, H0, M, ρ, τ, w, ρ', τ', S, ef, k⟩ := hh
  unfold callF at ef
  cases e1 : h ρ τ with
  | none => rw [e1] at ef; cases ef
  | some p =>
    obtain ⟨ws, ρ1, τ1⟩ := p
    rw [e1] at ef
    simp only [Option.bind_some] at ef
    cases e3 : F ws with
    | none => rw [e3] at ef; cases ef
    | some w' =>
      rw [e3] at ef
      cases ef
      refine ⟨T, M0, H0, M, ρ, τ, ws, _, _, S, e1, fun vs M1 H1 S1 x1 r1 => ?_⟩
      refine hd T M1 H1 ws _ vs Q e3 S1.trk S1.mt r1 fun v H' gr rr => ?_
      exact k v M1 H' (S1.grow gr) (x1.trans gr.ex) rr
variable {x : Str} {p : Pos} {id : String}
theorem de_callB {r : List V → Hp → VK → Prop} {F : List W → Option W} (hc : CallR X (.builtin id) r) (hd : CallD X r F) (hg : Gl X x) (hm : X.mg x = none) (hv : bootBuiltins x = some (.builtin id)) (ha : DAB X (e :: es) h) (hn : x ≠ "__name__" := by decide) (hdb : (x == ("__debug__" : Str)) = false := by decide)
    (he : starEach (e :: es) X.env = (false, eval e X.env) :: starEach es X.env := by rfl) (hpl : (backTo pos (starEach es X.env)).any (·.1) = false := by rfl) : DE X (.Call (.Name x p) (e :: es) [] pos) (callF F h) :=
  (pe_callB hc hg hm hv ha hn hdb he hpl).mono fun _ _ _ q => call_td hd q
theorem de_callTy {r : List V → Hp → VK → Prop} {F : List W → Option W} (hc : CallR X (.type id) r) (hd : CallD X r F) (hg : Gl X x) (hm : X.mg x = none) (hv : bootBuiltins x = some (.type id)) (ha : DAB X (e :: es) h) (hn : x ≠ "__name__" := by decide) (hdb : (x == ("__debug__" : Str)) = false := by decide)
    (he : starEach (e :: es) X.env = (false, eval e X.env) :: starEach es X.env := by rfl) (hpl : (backTo pos (starEach es X.env)).any (·.1) = false := by rfl) : DE X (.Call (.Name x p) (e :: es) [] pos) (callF F h) :=
  (pe_callTy hc hg hm hv ha hn hdb he hpl).mono fun _ _ _ q => call_td hd q
end
end ND

set_option Elab.async false
set_option linter.all false
set_option maxRecDepth 100000
set_option maxHeartbeats 4000000
/-! ND3: operators, comparisons, subscripts on data. -/
namespace ND
open PySem PySem.Spec L2
open PyProof.Rows hiding St

/-- an operation on data -/
def d2 (F : PyData → PyData → Option PyData) : W → W → Option W
  | .dat a, .dat b => (F a b).map .dat
  | .dat _, .tape => none
  | .dat _, .dct _ => none
  | .tape, _ => none
  | .dct _, _ => none
def OpP (X : Cx) (r : R2) (F : PyData → PyData → Option PyData) : Prop := ∀ (T : Addr) (M : MS) (H : Hp) (a b d : PyData) (v1 v2 : V) (Q : VK), F a b = some d → (∀ b, M b → H b ≠ none) → RB (cf X T) M H (.dat a) v1 → RB (cf X T) M H (.dat b) v2 →
  (∀ v H', Gr H H' → Rp M H' v d → Q v H') → r v1 v2 H Q
theorem OpP.d {X : Cx} {r : R2} {F : PyData → PyData → Option PyData} (h : OpP X r F) : OpD X r (d2 F) := fun T M H w1 w2 w v1 v2 Q e tr mt r1 r2 k => by
  cases w1 with
  | tape => cases e
  | dct _ => cases e
  | dat a =>
    cases w2 with
    | tape => cases e
    | dct _ => cases e
    | dat b =>
      cases e1 : F a b with
      | none => rw [show d2 F (.dat a) (.dat b) = (F a b).map .dat from rfl, e1] at e; cases e
      | some d =>
        rw [show d2 F (.dat a) (.dat b) = (F a b).map .dat from rfl, e1] at e
        cases e
        exact h T M H a b d v1 v2 Q e1 tr r1 r2 k
theorem szl {n : Nat} (h : n ≤ 16777216) : n ≤ sizeLine := by rw [sizeLine_eq]; exact h

/-! ### + -/
def addP : PyData → PyData → Option PyData
  | .int a, .int b => some (.int (a + b))
  | .str a, .str b => if a.length + b.length ≤ 16777216 then some (.str (a ++ b)) else none
  | .tuple a, .tuple b => if a.length + b.length ≤ 16777216 then some (.tuple (a ++ b)) else none
  | .list a, .list b => if a.length + b.length ≤ 16777216 then some (.list (a ++ b)) else none
  | _, _ => none
section
variable {X : Cx} {a b : Expr} {f g : EF} {pos : Pos}
def rAddP (K : PySem.W.Frag) : R2 := fun x y H Q => rI0 (fun i j => .int (i + j)) x y H Q ∨ (∃ i j, x = .str i ∧ y = .str j ∧ i.length + j.length ≤ sizeLine ∧ Q (.str (i ++ j)) H) ∨ rCatF K x y H Q ∨ rCat x y H Q
theorem op_addP : OpR X (binaryOp .Add) (rAddP X.K) := op_add.or (op_add_str.or (op_catF.or op_cat))
theorem opp_add : OpP X (rAddP X.K) addP := fun T M H a b d v1 v2 Q e tr r1 r2 k => by
  unfold addP at e
  split at e
  · cases e
    cases (show Rp M H v1 _ from r1)
    cases (show Rp M H v2 _ from r2)
    exact .inl ⟨_, _, rfl, rfl, k _ H (Gr.refl H) (.int _)⟩
  · split at e
    · next hl =>
      cases e
      cases (show Rp M H v1 _ from r1)
      cases (show Rp M H v2 _ from r2)
      exact .inr (.inl ⟨_, _, rfl, rfl, szl hl, k _ H (Gr.refl H) (.str _)⟩)
    · cases e
  · split at e
    · next a b hl =>
      cases e
      cases (show Rp M H v1 (.tuple a) from r1) with
      | tup e1 d1 n1 q1 =>
        cases (show Rp M H v2 (.tuple b) from r2) with
        | tup e2 d2 n2 q2 =>
          refine .inr (.inr (.inl ⟨_, _, _, _, rfl, rfl, sqt e1, sqt e2, by rw [q1.length, q2.length]; exact szl hl, fun z => ?_, fun z => ?_, fun p o np dn => ?_⟩))
          · subst z
            cases q1
            exact k _ H (Gr.refl H) (.tup e2 d2 n2 q2)
          · subst z
            cases q2
            exact k _ H (Gr.refl H) (by rw [List.append_nil]; exact .tup e1 d1 n1 q1)
          · exact k _ _ (Gr.upd np) (.tup upd_same dn (fun m => tr p m np) ((RpAll.later (Gr.upd np).later _ _ q1).append (RpAll.later (Gr.upd np).later _ _ q2)))
    · cases e
  · split at e
    · next a b hl =>
      cases e
      obtain ⟨l1, xs, rfl, e1, _, q1⟩ := r1
      obtain ⟨l2, ys, rfl, e2, _, q2⟩ := r2
      refine .inr (.inr (.inr ⟨_, _, _, _, rfl, rfl, e1, e2, by rw [q1.length, q2.length]; exact szl hl, fun p np => ?_⟩))
      have L := (Gr.upd (o := .lst (xs ++ ys)) np).later (M := M)
      exact k _ _ (Gr.upd np) (.lst upd_same (fun m => tr p m np) ((RpAll.later L _ _ q1).append (RpAll.later L _ _ q2)))
    · cases e
  · cases e
def addW := d2 addP
theorem de_add (ha : DB X a f) (hb : DB X b g) : DE X (.BinOp a .Add b pos) (op2 addW f g) := de_bin op_addP opp_add.d ha hb

/-! ### - * // % ** of ints -/
theorem opp_int {C : Int → Int → Prop} {G : Int → Int → Int} {F : PyData → PyData → Option PyData} (h : ∀ a b d, F a b = some d → ∃ i j, a = .int i ∧ b = .int j ∧ C i j ∧ d = .int (G i j)) : OpP X (rI C fun i j => .int (G i j)) F := fun T M H a b d v1 v2 Q e tr r1 r2 k => by
  obtain ⟨i, j, rfl, rfl, hc, rfl⟩ := h a b d e
  cases (show Rp M H v1 _ from r1)
  cases (show Rp M H v2 _ from r2)
  exact ⟨i, j, rfl, rfl, hc, k _ H (Gr.refl H) (.int _)⟩
theorem opp_int0 {G : Int → Int → PyData} {G' : Int → Int → V} {F : PyData → PyData → Option PyData} (hG : ∀ i j M H, Rp M H (G' i j) (G i j)) (h : ∀ a b d, F a b = some d → ∃ i j, a = .int i ∧ b = .int j ∧ d = G i j) : OpP X (rI0 G') F := fun T M H a b d v1 v2 Q e tr r1 r2 k => by
  obtain ⟨i, j, rfl, rfl, rfl⟩ := h a b d e
  cases (show Rp M H v1 _ from r1)
  cases (show Rp M H v2 _ from r2)
  exact ⟨i, j, rfl, rfl, k _ H (Gr.refl H) (hG i j M H)⟩
def subP : PyData → PyData → Option PyData
  | .int a, .int b => some (.int (a - b))
  | _, _ => none
def mulP : PyData → PyData → Option PyData
  | .int a, .int b => if a.natAbs < 18446744073709551616 ∨ b.natAbs < 18446744073709551616 then some (.int (a * b)) else none
  | _, _ => none
def fdivP : PyData → PyData → Option PyData
  | .int a, .int b => if 0 < b ∧ b < 18446744073709551616 then some (.int (a / b)) else none
  | _, _ => none
def modP : PyData → PyData → Option PyData
  | .int a, .int b => if 0 < b then some (.int (a % b)) else none
  | _, _ => none
def powP : PyData → PyData → Option PyData
  | .int a, .int b => if 0 ≤ b ∧ b ≤ 1000 ∧ a.natAbs < 18446744073709551616 then some (.int (a ^ b.toNat)) else none
  | _, _ => none
def subW := d2 subP
def mulW := d2 mulP
def fdivW := d2 fdivP
def modW := d2 modP
def powW := d2 powP
theorem de_sub (ha : DB X a f) (hb : DB X b g) : DE X (.BinOp a .Sub b pos) (op2 subW f g) := de_bin op_sub (opp_int0 (G := fun i j => .int (i - j)) (fun i j _ _ => .int _) fun a b d e => by
  unfold subP at e
  split at e
  · cases e; exact ⟨_, _, rfl, rfl, rfl⟩
  · cases e).d ha hb
theorem de_mul (ha : DB X a f) (hb : DB X b g) : DE X (.BinOp a .Mult b pos) (op2 mulW f g) := de_bin op_mul (opp_int (C := CMul) (G := fun i j => i * j) fun a b d e => by
  unfold mulP at e
  split at e
  · split at e
    · next h =>
      cases e
      refine ⟨_, _, rfl, rfl, ?_, rfl⟩
      rcases h with h | h
      · exact .inl ⟨by omega, by omega⟩
      · exact .inr ⟨by omega, by omega⟩
    · cases e
  · cases e).d ha hb
theorem de_fdiv (ha : DB X a f) (hb : DB X b g) : DE X (.BinOp a .FloorDiv b pos) (op2 fdivW f g) := de_bin op_fdivW (opp_int (C := CDivW) (G := fun i j => i / j) fun a b d e => by
  unfold fdivP at e
  split at e
  · split at e
    · next h =>
      cases e
      refine ⟨_, _, rfl, rfl, ?_, rfl⟩
      exact wide_div (b := 64) h.1 (by omega) (by decide) (by decide)
    · cases e
  · cases e).d ha hb
theorem de_mod (ha : DB X a f) (hb : DB X b g) : DE X (.BinOp a .Mod b pos) (op2 modW f g) := de_bin op_mod (opp_int (C := fun _ j => 0 < j) (G := fun i j => i % j) fun a b d e => by
  unfold modP at e
  split at e
  · split at e
    · next h => cases e; exact ⟨_, _, rfl, rfl, h, rfl⟩
    · cases e
  · cases e).d ha hb
theorem de_pow (ha : DB X a f) (hb : DB X b g) : DE X (.BinOp a .Pow b pos) (op2 powW f g) := de_bin op_pow (opp_int (C := CPow) (G := fun i j => i ^ j.toNat) fun a b d e => by
  unfold powP at e
  split at e
  · split at e
    · next h =>
      cases e
      refine ⟨_, _, rfl, rfl, ⟨h.1, by omega, by omega⟩, rfl⟩
    · cases e
  · cases e).d ha hb

/-! ### comparisons -/
open PySem.SeqAt (shaped)
def eqP (a b : PyData) : Option PyData := if shaped a = true ∧ shaped b = true then some (.bool (PyData.eqv a b)) else none
def neP (a b : PyData) : Option PyData := if shaped a = true ∧ shaped b = true then some (.bool (!PyData.eqv a b)) else none
theorem opp_eq : OpP X (rEqD X.K) eqP := fun T M H a b d v1 v2 Q e tr r1 r2 k => by
  unfold eqP at e
  split at e
  · next h => cases e; exact ⟨a, b, r1.dp, r2.dp, h.1, h.2, k _ H (Gr.refl H) (.bl _)⟩
  · cases e
theorem opp_ne : OpP X (rNeD X.K) neP := fun T M H a b d v1 v2 Q e tr r1 r2 k => by
  unfold neP at e
  split at e
  · next h => cases e; exact ⟨a, b, r1.dp, r2.dp, h.1, h.2, k _ H (Gr.refl H) (.bl _)⟩
  · cases e
def eqW := d2 eqP
def neW := d2 neP
def isNone : PyData → Bool
  | .none => true
  | _ => false
/-- < of alike data -/
def ltP (a b : PyData) : Option PyData := if PySem.W.alike a b = true ∧ isNone a = false ∧ a.depth ≤ 64 then some (.bool (PySem.W.dataLt a b)) else none
def rLtP (K : PySem.W.Frag) : R2 := fun x y H Q => ∃ d e, Dp K H x d ∧ Dp K H y e ∧ PySem.W.alike d e = true ∧ d ≠ .none ∧ d.depth ≤ 64 ∧ Q (.bl (PySem.W.dataLt d e)) H
theorem op_ltP (hu : X.A.units + 64 < cLine) : OpR X (compareOp .Lt) (rLtP X.K) := by
  intro pins s σ H x y v u Q I rx ry h
  obtain ⟨d, e, hd, he, al, nn, dp, q⟩ := h
  obtain ⟨as, r1⟩ := Dp.reads I d x v hd rx
  obtain ⟨bs, r2⟩ := Dp.reads I e y u he ry
  have hmin := Nat.min_le_left d.depth e.depth
  exact PySem.W.rcLt_alike d e X.A s v u as bs r1 r2 al nn (by omega) X.prog X.w X.xe _ ⟨.bl _, H, I, rfl, q⟩
theorem opp_lt : OpP X (rLtP X.K) ltP := fun T M H a b d v1 v2 Q e tr r1 r2 k => by
  unfold ltP at e
  split at e
  · next h =>
    cases e
    exact ⟨a, b, r1.dp, r2.dp, h.1, fun z => by subst z; exact absurd h.2.1 (by decide), h.2.2, k _ H (Gr.refl H) (.bl _)⟩
  · cases e
def ltW := d2 ltP
def leP : PyData → PyData → Option PyData
  | .int a, .int b => some (.bool (decide (a ≤ b)))
  | _, _ => none
def gtP : PyData → PyData → Option PyData
  | .int a, .int b => some (.bool (decide (b < a)))
  | _, _ => none
def geP : PyData → PyData → Option PyData
  | .int a, .int b => some (.bool (decide (b ≤ a)))
  | _, _ => none
def leW := d2 leP
def gtW := d2 gtP
def geW := d2 geP
theorem opp_le : OpP X (rI0 fun i j => .bl (decide (i ≤ j))) leP := opp_int0 (G := fun i j => .bool (decide (i ≤ j))) (fun _ _ _ _ => .bl _) fun a b d e => by
  unfold leP at e
  split at e
  · cases e; exact ⟨_, _, rfl, rfl, rfl⟩
  · cases e
theorem opp_gt : OpP X (rI0 fun i j => .bl (decide (j < i))) gtP := opp_int0 (G := fun i j => .bool (decide (j < i))) (fun _ _ _ _ => .bl _) fun a b d e => by
  unfold gtP at e
  split at e
  · cases e; exact ⟨_, _, rfl, rfl, rfl⟩
  · cases e
theorem opp_ge : OpP X (rI0 fun i j => .bl (decide (j ≤ i))) geP := opp_int0 (G := fun i j => .bool (decide (j ≤ i))) (fun _ _ _ _ => .bl _) fun a b d e => by
  unfold geP at e
  split at e
  · cases e; exact ⟨_, _, rfl, rfl, rfl⟩
  · cases e
/-- x in a list or a tuple -/
def inP (neg : Bool) : PyData → PyData → Option PyData := fun d c => match c with
  | .list ds => if shaped d = true ∧ shaped (.list ds) = true then some (.bool (neg ^^ ds.any fun z => PyData.eqv z d)) else none
  | .tuple ds => if shaped d = true ∧ shaped (.tuple ds) = true then some (.bool (neg ^^ ds.any fun z => PyData.eqv z d)) else none
  | _ => none
def rInP (K : PySem.W.Frag) (neg : Bool) : R2 := fun x y H Q => ∃ d ds, Dp K H x d ∧ (Dp K H y (.list ds) ∨ Dp K H y (.tuple ds)) ∧ shaped d = true ∧ shaped (.list ds) = true ∧ Q (.bl (neg ^^ ds.any fun z => PyData.eqv z d)) H
theorem op_inP (hu : X.A.units + 65 < cLine) : OpR X (compareOp .In) (rInP X.K false) := by
  intro pins s σ H x y v u Q I rx ry h
  obtain ⟨d, ds, hd, he, sd, se, q⟩ := h
  rw [Bool.false_xor] at q
  obtain ⟨as, r1⟩ := Dp.reads I d x v hd rx
  rcases he with he | he
  · obtain ⟨bs, r2⟩ := Dp.reads I (.list ds) y u he ry
    exact SeqAt.in_list_reads r2 r1 (SeqAt.canLay_of_shaped se) (SeqAt.canLay_of_shaped sd) (room_in_shaped sd hu) ⟨.bl _, H, I, rfl, q⟩
  · obtain ⟨bs, r2⟩ := Dp.reads I (.tuple ds) y u he ry
    exact SeqAt.in_tuple_reads r2 r1 (SeqAt.canLay_of_shaped se) (SeqAt.canLay_of_shaped sd) (room_in_shaped sd hu) ⟨.bl _, H, I, rfl, q⟩
theorem op_notInP (hu : X.A.units + 65 < cLine) : OpR X (compareOp .NotIn) (rInP X.K true) := by
  intro pins s σ H x y v u Q I rx ry h
  obtain ⟨d, ds, hd, he, sd, se, q⟩ := h
  rw [Bool.true_xor] at q
  obtain ⟨as, r1⟩ := Dp.reads I d x v hd rx
  rcases he with he | he
  · obtain ⟨bs, r2⟩ := Dp.reads I (.list ds) y u he ry
    exact SeqAt.notIn_list_reads r2 r1 (SeqAt.canLay_of_shaped se) (SeqAt.canLay_of_shaped sd) (room_in_shaped sd hu) ⟨.bl _, H, I, rfl, q⟩
  · obtain ⟨bs, r2⟩ := Dp.reads I (.tuple ds) y u he ry
    exact SeqAt.notIn_tuple_reads r2 r1 (SeqAt.canLay_of_shaped se) (SeqAt.canLay_of_shaped sd) (room_in_shaped sd hu) ⟨.bl _, H, I, rfl, q⟩
theorem shaped_lt (ds : List PyData) : shaped (.tuple ds) = shaped (.list ds) := by
  unfold SeqAt.shaped
  simp only [PyData.canLay0, PyData.depth]
  rfl
theorem opp_in (neg : Bool) : OpP X (rInP X.K neg) (inP neg) := fun T M H a b d v1 v2 Q e tr r1 r2 k => by
  unfold inP at e
  split at e
  · split at e
    · next h => cases e; exact ⟨a, _, r1.dp, .inl r2.dp, h.1, h.2, k _ H (Gr.refl H) (.bl _)⟩
    · cases e
  · split at e
    · next h => cases e; exact ⟨a, _, r1.dp, .inr r2.dp, h.1, by rw [← shaped_lt]; exact h.2, k _ H (Gr.refl H) (.bl _)⟩
    · cases e
  · cases e
def inW (neg : Bool) := d2 (inP neg)
/-- is None -/
def isNW (neg : Bool) : W → W → Option W
  | .dat d, .dat .none => some (.dat (.bool (neg ^^ isNone d)))
  | .dct _, .dat .none => some (.dat (.bool neg))
  | _, _ => none
theorem rb_none {C : Cf} {M : MS} {H : Hp} {d : PyData} {v : V} (h : RB C M H (.dat d) v) : decide (v = .non) = isNone d := by
  cases d with
  | none => cases (show Rp M H v _ from h); rfl
  | bool _ => cases (show Rp M H v _ from h); rfl
  | int _ => cases (show Rp M H v _ from h); rfl
  | str _ => cases (show Rp M H v _ from h); rfl
  | list ds => obtain ⟨a, xs, rfl, _⟩ := h; rfl
  | tuple ds => cases (show Rp M H v _ from h); rfl
  | dict _ => cases (show Rp M H v _ from h)
theorem opd_isN : OpD X (fun x y H Q => y = .non ∧ Q (.bl (decide (x = .non))) H) (isNW false) := fun T M H w1 w2 w v1 v2 Q e tr mt r1 r2 k => by
  unfold isNW at e
  split at e
  · cases e
    cases (show Rp M H v2 _ from r2)
    refine ⟨rfl, k _ H (Gr.refl H) ?_⟩
    rw [rb_none r1, Bool.false_xor]
    exact .bl _
  · cases e
    cases (show Rp M H v2 _ from r2)
    obtain ⟨a, rfl, _⟩ := r1
    exact ⟨rfl, k _ H (Gr.refl H) (.bl _)⟩
  · cases e
theorem opd_notN : OpD X (fun x y H Q => y = .non ∧ Q (.bl (!decide (x = .non))) H) (isNW true) := fun T M H w1 w2 w v1 v2 Q e tr mt r1 r2 k => by
  unfold isNW at e
  split at e
  · cases e
    cases (show Rp M H v2 _ from r2)
    refine ⟨rfl, k _ H (Gr.refl H) ?_⟩
    rw [rb_none r1, Bool.true_xor]
    exact .bl _
  · cases e
    cases (show Rp M H v2 _ from r2)
    obtain ⟨a, rfl, _⟩ := r1
    exact ⟨rfl, k _ H (Gr.refl H) (.bl _)⟩
  · cases e

/-! ### xs[i] -/
def ixP : PyData → PyData → Option PyData
  | .list ds, .int i => atI ds i
  | .tuple ds, .int i => atI ds i
  | _, _ => none
theorem RpAll.atI {M : MS} {H : Hp} {ds : List PyData} {vs : List V} {i : Int} {d : PyData} (h : RpAll M H vs ds) (e : L2.atI ds i = some d) : ∃ v, L2.atI vs i = some v ∧ Rp M H v d := by
  unfold L2.atI at e ⊢
  rw [h.length]
  cases q : ixN ds.length i with
  | none => rw [q] at e; cases e
  | some j =>
    rw [q] at e
    simp only [Option.bind_some] at e ⊢
    exact h.get e
theorem opp_ix : OpP X (fun x y H Q => rIxL X.K x y H Q ∨ rIxT X.K x y H Q) ixP := fun T M H a b d v1 v2 Q e tr r1 r2 k => by
  unfold ixP at e
  split at e
  · obtain ⟨l, xs, rfl, e1, _, q⟩ := r1
    cases (show Rp M H v2 _ from r2)
    obtain ⟨v, ev, rv⟩ := q.atI e
    exact .inl ⟨l, xs, _, v, rfl, rfl, SqL.of e1, ev, k _ H (Gr.refl H) rv⟩
  · next ds i =>
    cases (show Rp M H v1 (.tuple ds) from r1) with
    | tup e1 d1 n1 q1 =>
      cases (show Rp M H v2 _ from r2)
      obtain ⟨v, ev, rv⟩ := q1.atI e
      exact .inr ⟨_, _, _, v, rfl, rfl, sqt e1, ev, k _ H (Gr.refl H) rv⟩
  · cases e
def ixW := d2 ixP
theorem de_ixS (ha : DB X a f) (hb : DB X b g) (hs : PlainIx b) : DE X (.Subscript a b pos) (op2 ixW f g) := de_ix (ix_list.or ix_tup) opp_ix.d ha hb hs
/-- the tape's places -/
def tapeIx (i : Nat) (k : Int) : EF := fun ρ τ => match ρ[i]? with
  | some (some (.val .tape)) => if k = 0 then some (.dat (.list (τ.cells.map .int)), ρ, τ) else if k = 1 then some (.dat (.int τ.pos), ρ, τ) else if k = 2 then some (.dat (.int τ.cur), ρ, τ) else none
  | _ => none
theorem de_tapeIx (i : Nat) {x : Str} {k : Int} {j : Nat} {p1 p2 : Pos} (hN : X.N[i]? = some x := by rfl) (hv : Vis X.env.scope x := by first | exact Or.inl rfl | exact Or.inr (Or.inl rfl) | exact Or.inr (Or.inr rfl)) (hd : (x == ("__debug__" : Str)) = false := by decide)
    (hcd : (x == ("__classdict__" : Str)) = false := by decide) (hs : PlainIx (.Constant (.int k) j p2) := by intro _ _; rfl) : DE X (.Subscript (.Name x p1) (.Constant (.int k) j p2) pos) (tapeIx i k) := by
  refine (pe_ix ix_list (pe_var (X := X) (pos := p1) hN hv hd hcd) (pe_int (i := k) (j := j) (pos := p2)) hs).mono fun σ H Q h => ?_
  obtain ⟨T, M0, H0, M, ρ, τ, w, ρ', τ', S, ef, kk⟩ := h
  unfold tapeIx at ef
  split at ef
  · next e =>
    obtain ⟨v, ev, q⟩ := S.sl i _ e
    have q : v = .ref T := q
    subst q
    obtain ⟨_, pp, h1, h2, h3⟩ := S.tp
    refine ⟨_, ev, ?_⟩
    show rIxL X.K (.ref T) (.int k) H Q
    split at ef
    · next ek =>
      cases ef
      subst ek
      exact ⟨T, _, 0, _, rfl, rfl, SqL.of h1, atI_nat (j := 0) rfl, kk _ M H S (Ex.refl ..) (Rp.lst h2 h3 (RpAll.ints _))⟩
    · split at ef
      · next ek =>
        cases ef
        subst ek
        exact ⟨T, _, 1, _, rfl, rfl, SqL.of h1, atI_nat (j := 1) rfl, kk _ M H S (Ex.refl ..) (Rp.int _)⟩
      · split at ef
        · next ek =>
          cases ef
          subst ek
          exact ⟨T, _, 2, _, rfl, rfl, SqL.of h1, atI_nat (j := 2) rfl, kk _ M H S (Ex.refl ..) (Rp.int _)⟩
        · cases ef
  · cases ef

/-! ### tests -/
def tst (f : EF) : BF := fun ρ τ => (f ρ τ).bind fun r => match r.1 with
  | .dat (.bool b) => some (b, r.2.1, r.2.2)
  | _ => none
theorem tst_td {σ : St} {H : Hp} {Q : Bool → Hp → Prop} (h : tDT X (tst f) σ H Q) : tD X f σ H (fun x H' => ∃ k, x = .bl k ∧ Q k H') := by
  obtain ⟨T, M0, H0, M, ρ, τ, w, ρ', τ', S, ef, k⟩ := h
  unfold tst at ef
  cases e1 : f ρ τ with
  | none => rw [e1] at ef; cases ef
  | some p =>
    obtain ⟨w1, ρ1, τ1⟩ := p
    rw [e1] at ef
    simp only [Option.bind_some] at ef
    split at ef
    · next b ew =>
      cases ef
      refine ⟨T, M0, H0, M, ρ, τ, _, _, _, S, e1, fun v M' H' S' x r => ?_⟩
      cases (show Rp M' H' v _ from r)
      exact ⟨_, rfl, k M' H' S' x⟩
    · cases ef
theorem dt_val {e : Expr} (h : DE X e f) (he : ∀ whole, isTrue e X.env whole = (do let v ← whole; standAt e.pos; holding [v] (truthy v)) := by intro _; rfl) : DT X e (tst f) :=
  (pt_val h he).mono fun _ _ _ q => tst_td q
theorem dt_cmp {op : CmpOp} {r : R2} {F : W → W → Option W} (ho : OpR X (compareOp op) r) (hd : OpD X r F) (ha : DB X a f) (hb : DB X b g) (hm : behindInMarks op b = false) : DT X (.Compare a [op] [b] pos) (tst (op2 F f g)) :=
  (pt_cmpR ho ha hb hm).mono fun _ _ _ q => op2_td hd (tst_td q)
variable {p q : BF} {rest : List Expr}
def notB (p : BF) : BF := fun ρ τ => (p ρ τ).map fun r => (!r.1, r.2.1, r.2.2)
def andB (p q : BF) : BF := fun ρ τ => (p ρ τ).bind fun r => if r.1 = true then q r.2.1 r.2.2 else some (false, r.2.1, r.2.2)
def orB (p q : BF) : BF := fun ρ τ => (p ρ τ).bind fun r => if r.1 = true then some (true, r.2.1, r.2.2) else q r.2.1 r.2.2
theorem dt_not (ha : DT X a p) : DT X (.UnaryOp .Not a pos) (notB p) := (pt_not ha).mono fun σ H Q ⟨T, M0, H0, M, ρ, τ, w, ρ', τ', S, ef, k⟩ => by
  unfold notB at ef
  cases e1 : p ρ τ with
  | none => rw [e1] at ef; cases ef
  | some r =>
    obtain ⟨b, ρ1, τ1⟩ := r
    rw [e1] at ef
    cases ef
    exact ⟨T, M0, H0, M, ρ, τ, b, _, _, S, e1, fun M' H' S' x => k M' H' S' x⟩
def DW (X : Cx) (e : Expr) (f : BF) : Prop := PW X e (tDT X f)
theorem dt_w (h : DW X a p) : DT X a p := PW.pt h
theorem dw_and1 (ha : DT X a p) : DW X (.BoolOp .And [a] pos) p := pw_and1 ha
theorem dw_or1 (ha : DT X a p) : DW X (.BoolOp .Or [a] pos) p := pw_or1 ha
theorem dw_and (ha : DT X a p) (hb : DW X (.BoolOp .And (b :: rest) pos) q) : DW X (.BoolOp .And (a :: b :: rest) pos) (andB p q) :=
  (pw_and ha hb).mono fun σ H Q ⟨T, M0, H0, M, ρ, τ, w, ρ', τ', S, ef, k⟩ => by
    unfold andB at ef
    cases e1 : p ρ τ with
    | none => rw [e1] at ef; cases ef
    | some r =>
      obtain ⟨c, ρ1, τ1⟩ := r
      rw [e1] at ef
      simp only [Option.bind_some] at ef
      refine ⟨T, M0, H0, M, ρ, τ, c, ρ1, τ1, S, e1, fun M' H' S' x => ?_⟩
      cases c with
      | true =>
        rw [if_pos rfl] at ef
        exact iteT ⟨T, M0, H0, M', ρ1, τ1, w, ρ', τ', S', ef, fun M2 H2 S2 x2 => k M2 H2 S2 (x.trans x2)⟩
      | false =>
        rw [if_neg Bool.false_ne_true] at ef
        cases ef
        exact iteF (k M' H' S' x)
theorem dw_or (ha : DT X a p) (hb : DW X (.BoolOp .Or (b :: rest) pos) q) : DW X (.BoolOp .Or (a :: b :: rest) pos) (orB p q) :=
  (pw_or ha hb).mono fun σ H Q ⟨T, M0, H0, M, ρ, τ, w, ρ', τ', S, ef, k⟩ => by
    unfold orB at ef
    cases e1 : p ρ τ with
    | none => rw [e1] at ef; cases ef
    | some r =>
      obtain ⟨c, ρ1, τ1⟩ := r
      rw [e1] at ef
      simp only [Option.bind_some] at ef
      refine ⟨T, M0, H0, M, ρ, τ, c, ρ1, τ1, S, e1, fun M' H' S' x => ?_⟩
      cases c with
      | false =>
        rw [if_neg Bool.false_ne_true] at ef
        exact iteF ⟨T, M0, H0, M', ρ1, τ1, w, ρ', τ', S', ef, fun M2 H2 S2 x2 => k M2 H2 S2 (x.trans x2)⟩
      | true =>
        rw [if_pos rfl] at ef
        cases ef
        exact iteT (k M' H' S' x)
/-! .. as values -/
def ofB (p : BF) : EF := fun ρ τ => (p ρ τ).map fun r => (.dat (.bool r.1), r.2.1, r.2.2)
def andE (f g : EF) : EF := fun ρ τ => (f ρ τ).bind fun r => match r.1 with
  | .dat (.bool true) => g r.2.1 r.2.2
  | .dat (.bool false) => some (.dat (.bool false), r.2.1, r.2.2)
  | _ => none
def orE (f g : EF) : EF := fun ρ τ => (f ρ τ).bind fun r => match r.1 with
  | .dat (.bool true) => some (.dat (.bool true), r.2.1, r.2.2)
  | .dat (.bool false) => g r.2.1 r.2.2
  | _ => none
def notE (f : EF) : EF := fun ρ τ => (f ρ τ).bind fun r => match r.1 with
  | .dat (.bool b) => some (.dat (.bool (!b)), r.2.1, r.2.2)
  | _ => none
theorem de_one {op} (h : DE X a f) : DE X (.BoolOp op [a] pos) f := pe_one h
theorem de_and (ha : DE X a f) (hb : DE X (.BoolOp .And (b :: rest) pos) g) : DE X (.BoolOp .And (a :: b :: rest) pos) (andE f g) :=
  (pe_and ha hb).mono fun σ H Q ⟨T, M0, H0, M, ρ, τ, w, ρ', τ', S, ef, k⟩ => by
    unfold andE at ef
    cases e1 : f ρ τ with
    | none => rw [e1] at ef; cases ef
    | some r =>
      obtain ⟨c, ρ1, τ1⟩ := r
      rw [e1] at ef
      simp only [Option.bind_some] at ef
      refine ⟨T, M0, H0, M, ρ, τ, c, ρ1, τ1, S, e1, fun v M' H' S' x r => ?_⟩
      split at ef
      · cases (show Rp M' H' v _ from r)
        exact ⟨_, rfl, iteT ⟨T, M0, H0, M', ρ1, τ1, w, ρ', τ', S', ef, fun v2 M2 H2 S2 x2 r2 => k v2 M2 H2 S2 (x.trans x2) r2⟩⟩
      · cases (show Rp M' H' v _ from r)
        cases ef
        exact ⟨_, rfl, iteF (k _ M' H' S' x (.bl _))⟩
      · cases ef
theorem de_or (ha : DE X a f) (hb : DE X (.BoolOp .Or (b :: rest) pos) g) : DE X (.BoolOp .Or (a :: b :: rest) pos) (orE f g) :=
  (pe_or ha hb).mono fun σ H Q ⟨T, M0, H0, M, ρ, τ, w, ρ', τ', S, ef, k⟩ => by
    unfold orE at ef
    cases e1 : f ρ τ with
    | none => rw [e1] at ef; cases ef
    | some r =>
      obtain ⟨c, ρ1, τ1⟩ := r
      rw [e1] at ef
      simp only [Option.bind_some] at ef
      refine ⟨T, M0, H0, M, ρ, τ, c, ρ1, τ1, S, e1, fun v M' H' S' x r => ?_⟩
      split at ef
      · cases (show Rp M' H' v _ from r)
        cases ef
        exact ⟨_, rfl, iteT (k _ M' H' S' x (.bl _))⟩
      · cases (show Rp M' H' v _ from r)
        exact ⟨_, rfl, iteF ⟨T, M0, H0, M', ρ1, τ1, w, ρ', τ', S', ef, fun v2 M2 H2 S2 x2 r2 => k v2 M2 H2 S2 (x.trans x2) r2⟩⟩
      · cases ef
theorem de_not (ha : DE X a f) : DE X (.UnaryOp .Not a pos) (notE f) := (pe_not ha).mono fun σ H Q ⟨T, M0, H0, M, ρ, τ, w, ρ', τ', S, ef, k⟩ => by
  unfold notE at ef
  cases e1 : f ρ τ with
  | none => rw [e1] at ef; cases ef
  | some r =>
    obtain ⟨c, ρ1, τ1⟩ := r
    rw [e1] at ef
    simp only [Option.bind_some] at ef
    refine ⟨T, M0, H0, M, ρ, τ, c, ρ1, τ1, S, e1, fun v M' H' S' x r => ?_⟩
    split at ef
    · cases (show Rp M' H' v _ from r)
      cases ef
      exact ⟨_, rfl, k _ M' H' S' x (.bl _)⟩
    · cases ef
def ifE (p : BF) (f g : EF) : EF := fun ρ τ => (p ρ τ).bind fun r => if r.1 = true then f r.2.1 r.2.2 else g r.2.1 r.2.2
theorem de_ifExp {c : Expr} (hc : DT X c p) (ha : DE X a f) (hb : DE X b g) : DE X (.IfExp c a b pos) (ifE p f g) :=
  (pe_ifExp hc ha hb).mono fun σ H Q ⟨T, M0, H0, M, ρ, τ, w, ρ', τ', S, ef, k⟩ => by
    unfold ifE at ef
    cases e1 : p ρ τ with
    | none => rw [e1] at ef; cases ef
    | some r =>
      obtain ⟨c, ρ1, τ1⟩ := r
      rw [e1] at ef
      simp only [Option.bind_some] at ef
      refine ⟨T, M0, H0, M, ρ, τ, c, ρ1, τ1, S, e1, fun M' H' S' x => ?_⟩
      cases c with
      | true =>
        rw [if_pos rfl] at ef
        exact iteT ⟨T, M0, H0, M', ρ1, τ1, w, ρ', τ', S', ef, fun v M2 H2 S2 x2 r => k v M2 H2 S2 (x.trans x2) r⟩
      | false =>
        rw [if_neg Bool.false_ne_true] at ef
        exact iteF ⟨T, M0, H0, M', ρ1, τ1, w, ρ', τ', S', ef, fun v M2 H2 S2 x2 r => k v M2 H2 S2 (x.trans x2) r⟩
/-- a <= b <= c of ints -/
def chainLe (f g h : EF) : EF := fun ρ τ => (f ρ τ).bind fun r => (g r.2.1 r.2.2).bind fun q => match r.1, q.1 with
  | .dat (.int i), .dat (.int j) => if i ≤ j then (h q.2.1 q.2.2).bind fun s => match s.1 with
      | .dat (.int l) => some (.dat (.bool (decide (j ≤ l))), s.2.1, s.2.2)
      | _ => none
    else some (.dat (.bool false), q.2.1, q.2.2)
  | _, _ => none
end
end ND

set_option Elab.async false
set_option linter.all false
set_option maxRecDepth 100000
set_option maxHeartbeats 4000000
/-! ND4: displays, slices, calls of defs. -/
namespace ND
open PySem PySem.Spec L2
open PyProof.Rows hiding St

section
variable {X : Cx} {a b c e : Expr} {f g h : EF} {pos : Pos} {es : List Expr} {ha : AF}

/-! ### a <= b <= c of ints -/
theorem de_chainLe (h1 : DB X a f) (h2 : DB X b g) (h3 : DB X c h) (hm : lastMarks [.LtE, .LtE] [b, c] = false := by with_unfolding_all rfl) : DE X (.Compare a [.LtE, .LtE] [b, c] pos) (chainLe f g h) :=
  (pe_chain op_le op_le h1 h2 h3 hm).mono fun σ H Q ⟨T, M0, H0, M, ρ, τ, w, ρ', τ', S, ef, k⟩ => by
    unfold chainLe at ef
    cases e1 : f ρ τ with
    | none => rw [e1] at ef; cases ef
    | some r1 =>
      obtain ⟨w1, ρ1, τ1⟩ := r1
      rw [e1] at ef
      simp only [Option.bind_some] at ef
      cases e2 : g ρ1 τ1 with
      | none => rw [e2] at ef; cases ef
      | some r2 =>
        obtain ⟨w2, ρ2, τ2⟩ := r2
        rw [e2] at ef
        simp only [Option.bind_some] at ef
        refine ⟨T, M0, H0, M, ρ, τ, w1, ρ1, τ1, S, e1, fun v1 M1 H1 S1 x1 q1 => ?_⟩
        refine ⟨T, M0, H0, M1, ρ1, τ1, w2, ρ2, τ2, S1, e2, fun v2 M2 H2 S2 x2 q2 => ?_⟩
        split at ef
        · next i j =>
          cases (show Rp M1 H1 v1 _ from q1)
          cases (show Rp M2 H2 v2 _ from q2)
          refine ⟨i, j, rfl, rfl, decide (i ≤ j), rfl, ?_⟩
          split at ef
          · next hij =>
            rw [decide_eq_true hij]
            refine iteT ?_
            cases e3 : h ρ2 τ2 with
            | none => rw [e3] at ef; cases ef
            | some r3 =>
              obtain ⟨w3, ρ3, τ3⟩ := r3
              rw [e3] at ef
              simp only [Option.bind_some] at ef
              refine ⟨T, M0, H0, M2, ρ2, τ2, w3, ρ3, τ3, S2, e3, fun v3 M3 H3 S3 x3 q3 => ?_⟩
              split at ef
              · next l =>
                cases (show Rp M3 H3 v3 _ from q3)
                cases ef
                exact ⟨j, l, rfl, rfl, k _ M3 H3 S3 ((x1.trans x2).trans x3) (.bl _)⟩
              · cases ef
          · next hij =>
            rw [decide_eq_false hij]
            cases ef
            exact iteF (k _ M2 H2 S2 (x1.trans x2) (.bl _))
        · cases ef

/-! ### displays -/
def datsOf : List W → Option (List PyData)
  | [] => some []
  | .dat d :: ws => (datsOf ws).map fun ds => d :: ds
  | .tape :: _ => none
  | .dct _ :: _ => none
theorem datsOf_rp {C : Cf} {M : MS} {H : Hp} : ∀ {ws : List W} {ds : List PyData} {vs : List V}, datsOf ws = some ds → RwAll C M H ws vs → RpAll M H vs ds
  | [], _, _, e, r => by cases e; cases r; exact .nil
  | .dat d :: ws, _, _, e, r => by
    cases r with
    | cons r1 r2 =>
      cases q : datsOf ws with
      | none => rw [show datsOf (.dat d :: ws) = (datsOf ws).map fun ds => d :: ds from rfl, q] at e; cases e
      | some ds =>
        rw [show datsOf (.dat d :: ws) = (datsOf ws).map fun ds => d :: ds from rfl, q] at e
        cases e
        exact .cons r1 (datsOf_rp q r2)
  | .tape :: _, _, _, e, _ => by cases e
  | .dct _ :: _, _, _, e, _ => by cases e
def tupF (h : AF) : EF := fun ρ τ => (h ρ τ).bind fun r => (datsOf r.1).bind fun ds => if ds.length ≤ 16777216 then some (.dat (.tuple ds), r.2.1, r.2.2) else none
theorem de_tup {k : Nat} (h : DA X es ha) : DE X (.Tuple es k pos) (tupF ha) := (pe_tupF h).mono fun σ H Q ⟨T, M0, H0, M, ρ, τ, w, ρ', τ', S, ef, k⟩ => by
  unfold tupF at ef
  cases e1 : ha ρ τ with
  | none => rw [e1] at ef; cases ef
  | some r1 =>
    obtain ⟨ws, ρ1, τ1⟩ := r1
    rw [e1] at ef
    simp only [Option.bind_some] at ef
    cases e2 : datsOf ws with
    | none => rw [e2] at ef; cases ef
    | some ds =>
      rw [e2] at ef
      simp only [Option.bind_some] at ef
      split at ef
      · next hl =>
        cases ef
        refine ⟨T, M0, H0, M, ρ, τ, ws, _, _, S, e1, fun vs M1 H1 S1 x1 q1 => ?_⟩
        have q := datsOf_rp e2 q1
        refine ⟨by rw [q.length]; exact szl hl, fun p o np dn => ?_⟩
        exact k _ M1 _ (S1.grow (Gr.upd np)) (x1.trans (Gr.upd np).ex) (Rp.tup upd_same dn (S1.fresh np) (RpAll.later (Gr.upd np).later _ _ q))
      · cases ef
/-- a new list -/
structure FreshL (C : Cf) (M0 : MS) (H0 : Hp) (M : MS) (H : Hp) (ρ' : EnvD) (τ' : Tape) (σ : St) (a : Addr) (ds : List PyData) (M' : MS) (H' : Hp) : Prop where
  S : SI C M0 H0 M' ρ' τ' σ H'
  keep : ∀ b o, H b = some o → b ≠ C.T → H' b = some o
  sub : ∀ b, M' b → M b ∨ b = a
  new : H a = none
  lk : M' a
  no : ∀ (i : Nat) s, ρ'[i]? = some (some s) → s.isOwn = true → σ[i]? ≠ some (some (.ref a))
  it : ∃ xs, H' a = some (.lst xs) ∧ RpAll M' H' xs ds
abbrev FF := EnvD → Tape → Option (List PyData × EnvD × Tape)
def tDN (X : Cx) (f : FF) : TE := fun σ H Q => ∃ T M0 H0 M ρ τ ds ρ' τ', SI (cf X T) M0 H0 M ρ τ σ H ∧ f ρ τ = some (ds, ρ', τ') ∧
  ∀ a M' H', FreshL (cf X T) M0 H0 M H ρ' τ' σ a ds M' H' → Q (.ref a) H'
def DN (X : Cx) (e : Expr) (f : FF) : Prop := PE X e (tDN X f)
theorem SI.own_tracked {C : Cf} {M0 : MS} {H0 : Hp} {M : MS} {ρ : EnvD} {τ : Tape} {σ : St} {H : Hp} (S : SI C M0 H0 M ρ τ σ H) {p : Addr} (n : H p = none) : ∀ (i : Nat) s, ρ[i]? = some (some s) → s.isOwn = true → σ[i]? ≠ some (some (.ref p)) := fun i s e o z => by
  obtain ⟨v, ev, q⟩ := S.sl i s e
  obtain ⟨a, ea, m, _⟩ := q.own_ne o S.t0 S.trk0
  rw [ev] at z
  have z : v = .ref p := Option.some.inj (Option.some.inj z)
  rw [z] at ea
  cases ea
  exact S.trk _ m n
theorem SI.allocL {C : Cf} {M0 : MS} {H0 : Hp} {M M1 : MS} {ρ : EnvD} {τ : Tape} {σ : St} {H H1 : Hp} {p : Addr} {xs : List V} {ds : List PyData} (S : SI C M0 H0 M1 ρ τ σ H1) (x : Ex C.T M H M1 H1) (n : H1 p = none) (q : RpAll M1 H1 xs ds) :
    FreshL C M0 H0 M H ρ τ σ p ds (fun b => M1 b ∨ b = p) (upd H1 p (.lst xs)) where
  S := S.lock n
  keep := fun b o e nb => Gr.upd n b o (x.keep b o e nb)
  sub := fun b m => m.elim (fun m => .inl (x.sub b m)) .inr
  new := by
    cases e : H p with
    | none => rfl
    | some o =>
      by_cases z : p = C.T
      · obtain ⟨_, q, h1, _⟩ := S.tp
        rw [z, h1] at n; cases n
      · rw [x.keep p o e z] at n; cases n
  lk := .inr rfl
  no := S.own_tracked n
  it := ⟨xs, upd_same, RpAll.later ⟨fun b u e _ => Gr.upd n b u e, fun b m => m.elim .inl fun z => by rw [z]; exact .inr n⟩ _ _ q⟩
def ofN (f : FF) : EF := fun ρ τ => (f ρ τ).map fun r => (.dat (.list r.1), r.2.1, r.2.2)
theorem FreshL.done {C : Cf} {M0 : MS} {H0 : Hp} {M M' : MS} {ρ0 ρ' : EnvD} {τ0 τ' : Tape} {σ : St} {H H' : Hp} {a : Addr} {ds : List PyData} (S : SI C M0 H0 M ρ0 τ0 σ H) (F : FreshL C M0 H0 M H ρ' τ' σ a ds M' H') :
    SI C M0 H0 (fun b => M' b ∧ b ≠ a) ρ' τ' σ H' ∧ Ex C.T M H (fun b => M' b ∧ b ≠ a) H' ∧ Rp (fun b => M' b ∧ b ≠ a) H' (.ref a) (.list ds) := by
  obtain ⟨xs, e, q⟩ := F.it
  refine ⟨F.S.unlock (S.fresh0 F.new) F.no, ⟨F.keep, fun b m => (F.sub b m.1).resolve_right m.2⟩, .lst e (fun z => z.2 rfl) (RpAll.later ⟨fun _ _ e _ => e, fun b m => .inl m.1⟩ _ _ q)⟩
theorem de_ofN {f : FF} (h : DN X e f) : DE X e (ofN f) := h.mono fun σ H Q ⟨T, M0, H0, M, ρ, τ, w, ρ', τ', S, ef, k⟩ => by
  unfold ofN at ef
  cases e1 : f ρ τ with
  | none => rw [e1] at ef; cases ef
  | some r1 =>
    obtain ⟨ds, ρ1, τ1⟩ := r1
    rw [e1] at ef
    cases ef
    refine ⟨T, M0, H0, M, ρ, τ, ds, _, _, S, e1, fun a M' H' F => ?_⟩
    obtain ⟨S', x, r⟩ := F.done S
    exact k _ _ H' S' x r
def lstN (h : AF) : FF := fun ρ τ => (h ρ τ).bind fun r => (datsOf r.1).bind fun ds => if ds.length ≤ 16777216 then some (ds, r.2.1, r.2.2) else none
theorem dn_lst (h : DA X es ha) : DN X (.List es pos) (lstN ha) := (pe_lst h).mono fun σ H Q ⟨T, M0, H0, M, ρ, τ, w, ρ', τ', S, ef, k⟩ => by
  unfold lstN at ef
  cases e1 : ha ρ τ with
  | none => rw [e1] at ef; cases ef
  | some r1 =>
    obtain ⟨ws, ρ1, τ1⟩ := r1
    rw [e1] at ef
    simp only [Option.bind_some] at ef
    cases e2 : datsOf ws with
    | none => rw [e2] at ef; cases ef
    | some ds =>
      rw [e2] at ef
      simp only [Option.bind_some] at ef
      split at ef
      · next hl =>
        cases ef
        refine ⟨T, M0, H0, M, ρ, τ, ws, _, _, S, e1, fun vs M1 H1 S1 x1 q1 => ?_⟩
        have q := datsOf_rp e2 q1
        exact ⟨by rw [q.length]; exact szl hl, fun p np => k _ _ _ (S1.allocL x1 np q)⟩
      · cases ef
/-- xs + ys, lists, to be owned -/
def addN (f g : EF) : FF := fun ρ τ => (f ρ τ).bind fun r => (g r.2.1 r.2.2).bind fun q => match r.1, q.1 with
  | .dat (.list a), .dat (.list b) => if a.length + b.length ≤ 16777216 then some (a ++ b, q.2.1, q.2.2) else none
  | _, _ => none
theorem dn_add (h1 : DB X a f) (h2 : DB X b g) : DN X (.BinOp a .Add b pos) (addN f g) := (pe_op op_cat h1 h2).mono fun σ H Q ⟨T, M0, H0, M, ρ, τ, w, ρ', τ', S, ef, k⟩ => by
  unfold addN at ef
  cases e1 : f ρ τ with
  | none => rw [e1] at ef; cases ef
  | some r1 =>
    obtain ⟨w1, ρ1, τ1⟩ := r1
    rw [e1] at ef
    simp only [Option.bind_some] at ef
    cases e2 : g ρ1 τ1 with
    | none => rw [e2] at ef; cases ef
    | some r2 =>
      obtain ⟨w2, ρ2, τ2⟩ := r2
      rw [e2] at ef
      simp only [Option.bind_some] at ef
      split at ef
      · next da db =>
        split at ef
        · next hl =>
          cases ef
          refine ⟨T, M0, H0, M, ρ, τ, _, ρ1, τ1, S, e1, fun v1 M1 H1 S1 x1 q1 => ?_⟩
          refine ⟨T, M0, H0, M1, ρ1, τ1, _, _, _, S1, e2, fun v2 M2 H2 S2 x2 q2 => ?_⟩
          obtain ⟨l1, xs, rfl, y1, _, z1⟩ := q1.ex S1.mt x2
          obtain ⟨l2, ys, rfl, y2, _, z2⟩ := q2
          exact ⟨_, _, _, _, rfl, rfl, y1, y2, by rw [z1.length, z2.length]; exact szl hl, fun p np => k _ _ _ (S2.allocL (x1.trans x2) np (z1.append z2))⟩
        · cases ef
      · cases ef

/-! ### slices -/
abbrev OF := EnvD → Tape → Option (Option Int × EnvD × Tape)
def tDO (X : Cx) (f : OF) : TO := fun σ H Q => ∃ T M0 H0 M ρ τ w ρ' τ', SI (cf X T) M0 H0 M ρ τ σ H ∧ f ρ τ = some (w, ρ', τ') ∧ ∀ M' H', SI (cf X T) M0 H0 M' ρ' τ' σ H' → Ex T M H M' H' → Q w H'
def DO (X : Cx) (e : Option Expr) (f : OF) : Prop := PO X e (tDO X f)
def noO : OF := fun ρ τ => some (none, ρ, τ)
def someO (f : EF) : OF := fun ρ τ => (f ρ τ).bind fun r => match r.1 with
  | .dat (.int i) => some (some i, r.2.1, r.2.2)
  | _ => none
theorem do_none : DO X none noO := po_none.mono fun σ H Q ⟨T, M0, H0, M, ρ, τ, w, ρ', τ', S, ef, k⟩ => by
  cases ef
  exact k M H S (Ex.refl ..)
theorem do_some (h1 : DB X e f) : DO X (some e) (someO f) := (po_some h1).mono fun σ H Q ⟨T, M0, H0, M, ρ, τ, w, ρ', τ', S, ef, k⟩ => by
  unfold someO at ef
  cases e1 : f ρ τ with
  | none => rw [e1] at ef; cases ef
  | some r1 =>
    obtain ⟨w1, ρ1, τ1⟩ := r1
    rw [e1] at ef
    simp only [Option.bind_some] at ef
    refine ⟨T, M0, H0, M, ρ, τ, w1, ρ1, τ1, S, e1, fun v M' H' S' x r => ?_⟩
    split at ef
    · cases (show Rp M' H' v _ from r)
      cases ef
      exact ⟨_, rfl, k M' H' S' x⟩
    · cases ef
def cutD (xs : List PyData) (lo hi : Option Int) : List PyData := (xs.drop (HT.sIx xs.length 0 lo)).take (HT.sIx xs.length xs.length hi - HT.sIx xs.length 0 lo)
def slP : PyData → Option Int → Option Int → Option PyData
  | .list ds, lo, hi => some (.list (cutD ds lo hi))
  | .tuple ds, lo, hi => some (.tuple (cutD ds lo hi))
  | .str x, lo, hi => if x.length ≤ 16777216 then some (.str (cutS x lo hi)) else none
  | _, _, _ => none
def slF (f : EF) (l u : OF) : EF := fun ρ τ => (f ρ τ).bind fun r => (l r.2.1 r.2.2).bind fun q => (u q.2.1 q.2.2).bind fun s => match r.1 with
  | .dat d => (slP d q.1 s.1).map fun d' => (.dat d', s.2.1, s.2.2)
  | _ => none
theorem RpAll.cut {M : MS} {H : Hp} {ds : List PyData} {vs : List V} (h : RpAll M H vs ds) (lo hi : Option Int) : RpAll M H (cutV vs lo hi) (cutD ds lo hi) := by
  unfold cutV cutD
  rw [h.length]
  exact (h.drop _).take _
variable {lo hi : Option Expr} {l u : OF} {p2 : Pos}
theorem de_slice (h1 : DB X e f) (h2 : DO X lo l) (h3 : DO X hi u) : DE X (.Subscript e (.Slice lo hi none p2) pos) (slF f l u) :=
  (pe_slice (sl_list.or (sl_tupF.or sl_str)) h1 h2 h3).mono fun σ H Q ⟨T, M0, H0, M, ρ, τ, w, ρ', τ', S, ef, k⟩ => by
    unfold slF at ef
    cases e1 : f ρ τ with
    | none => rw [e1] at ef; cases ef
    | some r1 =>
      obtain ⟨w1, ρ1, τ1⟩ := r1
      rw [e1] at ef
      simp only [Option.bind_some] at ef
      cases e2 : l ρ1 τ1 with
      | none => rw [e2] at ef; cases ef
      | some r2 =>
        obtain ⟨o1, ρ2, τ2⟩ := r2
        rw [e2] at ef
        simp only [Option.bind_some] at ef
        cases e3 : u ρ2 τ2 with
        | none => rw [e3] at ef; cases ef
        | some r3 =>
          obtain ⟨o2, ρ3, τ3⟩ := r3
          rw [e3] at ef
          simp only [Option.bind_some] at ef
          refine ⟨T, M0, H0, M, ρ, τ, w1, ρ1, τ1, S, e1, fun v1 M1 H1 S1 x1 q1 => ?_⟩
          refine ⟨T, M0, H0, M1, ρ1, τ1, o1, ρ2, τ2, S1, e2, fun M2 H2 S2 x2 => ?_⟩
          refine ⟨T, M0, H0, M2, ρ2, τ2, o2, ρ3, τ3, S2, e3, fun M3 H3 S3 x3 => ?_⟩
          split at ef
          · next d =>
            have q3 : RB (cf X T) M3 H3 (.dat d) v1 := q1.ex S1.mt (x2.trans x3)
            have xx := (x1.trans x2).trans x3
            unfold slP at ef
            split at ef
            · cases ef
              obtain ⟨a, xs, rfl, e5, _, q5⟩ := q3
              refine .inl ⟨a, xs, rfl, SqL.of e5, fun p np => ?_⟩
              exact k _ M3 _ (S3.grow (Gr.upd np)) (xx.trans (Gr.upd np).ex) (Rp.lst upd_same (S3.fresh np) (RpAll.later (Gr.upd np).later _ _ (q5.cut _ _)))
            · next ds =>
              cases ef
              cases (show Rp M3 H3 v1 (.tuple ds) from q3) with
              | @tup a _ xs _ e5 d5 n5 q5 =>
                refine .inr (.inl ⟨a, xs, rfl, sqt e5, fun hw => ?_, fun p o np dn => ?_⟩)
                · have ec : cutD ds o1 o2 = ds := by
                    unfold cutD
                    rw [← q5.length, hw.1, hw.2, List.drop_zero, Nat.sub_zero, q5.length, List.take_length]
                  exact k _ M3 H3 S3 xx (by rw [ec]; exact Rp.tup e5 d5 n5 q5)
                · exact k _ M3 _ (S3.grow (Gr.upd np)) (xx.trans (Gr.upd np).ex) (Rp.tup upd_same dn (S3.fresh np) (RpAll.later (Gr.upd np).later _ _ (q5.cut _ _)))
            · split at ef
              · next hl =>
                cases ef
                cases (show Rp M3 H3 v1 _ from q3)
                exact .inr (.inr ⟨_, rfl, szl hl, k _ M3 H3 S3 xx (Rp.str _)⟩)
              · cases ef
            · cases ef
          · cases ef

/-! ### a def called -/
def spD (P : Program) (w : World) (F : List W → Tape → Option (W × Tape)) : Sp := fun vs H Q _ => ∃ T M τ ws r τ', TapeOk T M H τ ∧ (∀ b, M b → H b ≠ none) ∧ RwAll ⟨P, w, T⟩ M H ws vs ∧ F ws τ = some (r, τ') ∧
  ∀ v H', TapeOk T M H' τ' → (∀ b o, H b = some o → b ≠ T → H' b = some o) → Rw ⟨P, w, T⟩ M H' r v → Q v H'
theorem SI.called {C : Cf} {M0 : MS} {H0 : Hp} {M : MS} {ρ : EnvD} {τ τ' : Tape} {σ : St} {H H' : Hp} (S : SI C M0 H0 M ρ τ σ H) (t : TapeOk C.T M H' τ') (kp : ∀ b o, H b = some o → b ≠ C.T → H' b = some o) : SI C M0 H0 M ρ τ' σ H' := by
  have L : Later M H M H' := ⟨fun b o e n => kp b o e fun z => n (by rw [z]; exact S.mt), fun _ m => .inl m⟩
  have eq : ∀ b, M b → b ≠ C.T → H' b = H b := fun b m n => by
    cases e : H b with
    | none => exact absurd e (S.trk b m)
    | some o => exact kp b o e n
  refine ⟨S.len, t, S.m0, S.t0, fun b m z => ?_, S.trk0, fun b o e n => kp b o (S.fr b o e n) n, fun i s e => ?_, S.nd⟩
  · by_cases n : b = C.T
    · obtain ⟨_, q, h1, _⟩ := t
      rw [n, h1] at z; cases z
    · exact S.trk b m ((eq b m n).symm.trans z)
  · obtain ⟨v, ev, q⟩ := S.sl i s e
    refine ⟨v, ev, q.step L fun o a ea => ?_⟩
    obtain ⟨a', ea', m, _, nT⟩ := q.own_ne o S.t0 S.trk0
    rw [ea] at ea'; cases ea'
    exact ⟨m, eq a m nT⟩
def callD (F : List W → Tape → Option (W × Tape)) (h : AF) : EF := fun ρ τ => (h ρ τ).bind fun r => (F r.1 r.2.2).map fun q => (q.1, r.2.1, q.2)
variable {k : Nat} {fa : Addr} {fd : FuncData} {ps : List Str} {x : Str} {p : Pos} {F : List W → Tape → Option (W × Tape)}
theorem de_call (G : FnOk X.prog X.w X.K X.mg X.base CX0 k fa fd ps (spD X.prog X.w F)) (hr : Room k X.A) (hg : Gl X x) (hm : X.mg x = some (.ref fa)) (hk : PySem.W.keepIn X.K (.ref fa) = true) (hb : Binds X.K fd ps [])
    (hh : DA X (e :: es) ha) (hdb : (x == ("__debug__" : Str)) = false := by decide) (he : starEach (e :: es) X.env = (false, eval e X.env) :: starEach es X.env := by rfl) (hpl : (backTo pos (starEach es X.env)).any (·.1) = false := by rfl) :
    DE X (.Call (.Name x p) (e :: es) [] pos) (callD F ha) :=
  (pe_call G hr hg hm hk hb .nil pass0 hh hdb he hpl).mono fun σ H Q ⟨T, M0, H0, M, ρ, τ, w, ρ', τ', S, ef, k⟩ => by
    unfold callD at ef
    cases e1 : ha ρ τ with
    | none => rw [e1] at ef; cases ef
    | some r1 =>
      obtain ⟨ws, ρ1, τ1⟩ := r1
      rw [e1] at ef
      simp only [Option.bind_some] at ef
      cases e2 : F ws τ1 with
      | none => rw [e2] at ef; cases ef
      | some r2 =>
        obtain ⟨r, τ2⟩ := r2
        rw [e2] at ef
        cases ef
        refine ⟨T, M0, H0, M, ρ, τ, ws, _, τ1, S, e1, fun vs M1 H1 S1 x1 q1 => ?_⟩
        show spD X.prog X.w F (vs ++ []) H1 Q E0
        rw [List.append_nil]
        refine ⟨T, M1, τ1, ws, _, _, S1.tp, S1.trk, q1, e2, fun v H' t kp r => ?_⟩
        exact k v M1 H' (S1.called t kp) (x1.trans ⟨kp, fun _ m => m⟩) r
end
end ND

set_option Elab.async false
set_option linter.all false
set_option maxRecDepth 100000
set_option maxHeartbeats 4000000
/-! ND5: statements, loops, a def's body. -/
namespace ND
open PySem PySem.Spec L2
open PyProof.Rows hiding St

inductive Out where
  | nx (ρ : EnvD) (τ : Tape)
  | rt (w : W) (τ : Tape)
  | bk (ρ : EnvD) (τ : Tape)
  | ct (ρ : EnvD) (τ : Tape)
abbrev SF := EnvD → Tape → Option Out
theorem _root_.L2.PS.mono {X : Cx} {e : Stmt} {t t' : TS} (h : PS X e t) (i : ∀ D σ H, t' D σ H → t D σ H) : PS X e t' := ⟨fun pins s σ H D I q => h.run pins s σ H D I (i D σ H q)⟩
theorem _root_.L2.PSs.mono {X : Cx} {e : List Stmt} {t t' : TS} (h : PSs X e t) (i : ∀ D σ H, t' D σ H → t D σ H) : PSs X e t' := ⟨fun pins s σ H D I q => h.run pins s σ H D I (i D σ H q)⟩
theorem _root_.L2.PG.mono {X : Cx} {e : Expr} {t t' : TG} (h : PG X e t) (i : ∀ v σ H Q, t' v σ H Q → t v σ H Q) : PG X e t' := ⟨fun pins s σ H v u Q I r q => h.run pins s σ H v u Q I r (i v σ H Q q)⟩
theorem _root_.L2.PI.mono {X : Cx} {tg e : Expr} {t t' : TI} (h : PI X tg e t) (i : ∀ σ H Q, t' σ H Q → t σ H Q) : PI X tg e t' := ⟨fun pins s σ H Q I q => h.run pins s σ H Q I (i σ H Q q)⟩

/-- what is wanted behind, by the outcome -/
def Wants (C : Cf) (M0 : MS) (H0 : Hp) (M : MS) (H : Hp) (D : Ends) : Out → Prop
  | .nx ρ' τ' => ∀ σ' M' H', SI C M0 H0 M' ρ' τ' σ' H' → Later M H M' H' → D.nx σ' H'
  | .bk ρ' τ' => ∀ σ' M' H', SI C M0 H0 M' ρ' τ' σ' H' → Later M H M' H' → D.bk σ' H'
  | .ct ρ' τ' => ∀ σ' M' H', SI C M0 H0 M' ρ' τ' σ' H' → Later M H M' H' → D.ct σ' H'
  | .rt w τ' => ∀ v H', TapeOk C.T M0 H' τ' → (∀ b o, H0 b = some o → b ≠ C.T → H' b = some o) → Rw C M0 H' w v → D.rt v H'
def tDS (X : Cx) (F : SF) : TS := fun D σ H => ∃ T M0 H0 M ρ τ o, SI (cf X T) M0 H0 M ρ τ σ H ∧ F ρ τ = some o ∧ Wants (cf X T) M0 H0 M H D o
def DS (X : Cx) (s : Stmt) (F : SF) : Prop := PS X s (tDS X F)
def DSs (X : Cx) (s : List Stmt) (F : SF) : Prop := PSs X s (tDS X F)
theorem Wants.later {C : Cf} {M0 : MS} {H0 : Hp} {M M1 : MS} {H H1 : Hp} {D : Ends} {o : Out} (h : Wants C M0 H0 M H D o) (L : Later M H M1 H1) : Wants C M0 H0 M1 H1 D o := by
  cases o with
  | nx ρ τ => exact fun σ' M' H' S l => h σ' M' H' S (L.trans l)
  | bk ρ τ => exact fun σ' M' H' S l => h σ' M' H' S (L.trans l)
  | ct ρ τ => exact fun σ' M' H' S l => h σ' M' H' S (L.trans l)
  | rt w τ => exact h

section
variable {X : Cx} {e a b c : Expr} {f g : EF} {pos : Pos} {st : Stmt} {rest : List Stmt} {F G : SF} {p : BF}
def skipS : SF := fun ρ τ => some (.nx ρ τ)
def seqS (F G : SF) : SF := fun ρ τ => (F ρ τ).bind fun o => match o with
  | .nx ρ' τ' => G ρ' τ'
  | .rt w τ' => some (.rt w τ')
  | .bk ρ' τ' => some (.bk ρ' τ')
  | .ct ρ' τ' => some (.ct ρ' τ')
theorem dss_nil : DSs X [] skipS := pss_nil.mono fun D σ H ⟨T, M0, H0, M, ρ, τ, o, S, ef, w⟩ => by
  cases ef
  exact w σ M H S (Later.refl ..)
theorem dss_one (h : DS X st F) : DSs X [st] F := pss_one h
theorem dss_cons (h1 : DS X st F) (h2 : DSs X rest G) : DSs X (st :: rest) (seqS F G) := (pss_cons h1 h2).mono fun D σ H ⟨T, M0, H0, M, ρ, τ, o, S, ef, w⟩ => by
  unfold seqS at ef
  cases e1 : F ρ τ with
  | none => rw [e1] at ef; cases ef
  | some o1 =>
    rw [e1] at ef
    simp only [Option.bind_some] at ef
    refine ⟨T, M0, H0, M, ρ, τ, o1, S, e1, ?_⟩
    cases o1 with
    | nx ρ1 τ1 => exact fun σ' M' H' S' L => ⟨T, M0, H0, M', ρ1, τ1, o, S', ef, w.later L⟩
    | rt w1 τ1 => cases ef; exact w
    | bk ρ1 τ1 => cases ef; exact w
    | ct ρ1 τ1 => cases ef; exact w
/-- code that isn't come to -/
def stuckS : SF := fun _ _ => none
theorem ds_stuck : DS X st stuckS := ps_never.mono fun D σ H ⟨T, M0, H0, M, ρ, τ, o, S, ef, w⟩ => by cases ef
theorem ds_pass : DS X (.Pass pos) skipS := ps_pass.mono fun D σ H ⟨T, M0, H0, M, ρ, τ, o, S, ef, w⟩ => by
  cases ef
  exact w σ M H S (Later.refl ..)
def brkS : SF := fun ρ τ => some (.bk ρ τ)
def cntS : SF := fun ρ τ => some (.ct ρ τ)
theorem ds_break : DS X (.Break pos) brkS := ps_break.mono fun D σ H ⟨T, M0, H0, M, ρ, τ, o, S, ef, w⟩ => by
  cases ef
  exact w σ M H S (Later.refl ..)
theorem ds_continue : DS X (.Continue pos) cntS := ps_continue.mono fun D σ H ⟨T, M0, H0, M, ρ, τ, o, S, ef, w⟩ => by
  cases ef
  exact w σ M H S (Later.refl ..)
def retS (f : EF) : SF := fun ρ τ => (f ρ τ).map fun r => .rt r.1 r.2.2
theorem SI.back {C : Cf} {M0 : MS} {H0 : Hp} {M : MS} {ρ : EnvD} {τ : Tape} {σ : St} {H : Hp} (S : SI C M0 H0 M ρ τ σ H) : Later M H M0 H := ⟨fun _ _ e _ => e, fun b m => .inl (S.m0 b m)⟩
theorem ds_ret (h : DE X e f) : DS X (.Return (some e) pos) (retS f) := (ps_ret h).mono fun D σ H ⟨T, M0, H0, M, ρ, τ, o, S, ef, w⟩ => by
  unfold retS at ef
  cases e1 : f ρ τ with
  | none => rw [e1] at ef; cases ef
  | some r =>
    obtain ⟨w1, ρ1, τ1⟩ := r
    rw [e1] at ef
    cases ef
    refine ⟨T, M0, H0, M, ρ, τ, w1, ρ1, _, S, e1, fun v M' H' S' x r => ?_⟩
    exact w v H' (S'.tp.later S'.back S'.t0 rfl) S'.fr (r.later S'.back)
def ifS (p : BF) (F G : SF) : SF := fun ρ τ => (p ρ τ).bind fun r => if r.1 = true then F r.2.1 r.2.2 else G r.2.1 r.2.2
theorem ds_if {s1 s2 : List Stmt} (hc : DT X c p) (h1 : DSs X s1 F) (h2 : DSs X s2 G) : DS X (.If c s1 s2 pos) (ifS p F G) := (ps_if hc h1 h2).mono fun D σ H ⟨T, M0, H0, M, ρ, τ, o, S, ef, w⟩ => by
  unfold ifS at ef
  cases e1 : p ρ τ with
  | none => rw [e1] at ef; cases ef
  | some r =>
    obtain ⟨b, ρ1, τ1⟩ := r
    rw [e1] at ef
    simp only [Option.bind_some] at ef
    refine ⟨T, M0, H0, M, ρ, τ, b, ρ1, τ1, S, e1, fun M' H' S' x => ?_⟩
    cases b with
    | true =>
      rw [if_pos rfl] at ef
      exact iteT ⟨T, M0, H0, M', ρ1, τ1, o, S', ef, w.later (x.later S.mt)⟩
    | false =>
      rw [if_neg Bool.false_ne_true] at ef
      exact iteF ⟨T, M0, H0, M', ρ1, τ1, o, S', ef, w.later (x.later S.mt)⟩

/-! ### stores -/
def setS (i : Nat) (f : EF) : SF := fun ρ τ => (f ρ τ).map fun r => .nx (r.2.1.set i (some (.val r.1))) r.2.2
theorem ds_set {i : Nat} {x : Str} {pos' : Pos} (hN : X.N.Nodup) (hi : X.N[i]? = some x) (hx : Loc X.env.scope x) (he : DE X e f) (hs : swapsWith e (some (.Name x pos')) pos.line X.env = pure false := by rfl) (hf : X.fn x = true ∨ X.env.scope.names.lookup x = some .local := by first | exact .inl rfl | exact .inr rfl | assumption) :
    DS X (.Assign [.Name x pos'] e pos) (setS i f) := (ps_set hN hi hx he hs hf).mono fun D σ H ⟨T, M0, H0, M, ρ, τ, o, S, ef, w⟩ => by
  unfold setS at ef
  cases e1 : f ρ τ with
  | none => rw [e1] at ef; cases ef
  | some r =>
    obtain ⟨w1, ρ1, τ1⟩ := r
    rw [e1] at ef
    cases ef
    refine ⟨T, M0, H0, M, ρ, τ, w1, ρ1, _, S, e1, fun v M' H' S' x r => ?_⟩
    exact w _ M' H' (S'.putVal r) (x.later S.mt)
/-- x = [..]: the slot owns the list -/
def ownS (i : Nat) (f : FF) : SF := fun ρ τ => (f ρ τ).map fun r => .nx (r.2.1.set i (some (.own r.1))) r.2.2
theorem own_td {i : Nat} {f : FF} {σ : St} {H : Hp} {D : Ends} (h : tDS X (ownS i f) D σ H) : tAsg (tDN X f) (gName i) D σ H := by
  obtain ⟨T, M0, H0, M, ρ, τ, o, S, ef, w⟩ := h
  unfold ownS at ef
  cases e1 : f ρ τ with
  | none => rw [e1] at ef; cases ef
  | some r =>
    obtain ⟨ds, ρ1, τ1⟩ := r
    rw [e1] at ef
    cases ef
    refine ⟨T, M0, H0, M, ρ, τ, ds, ρ1, _, S, e1, fun a M' H' F => ?_⟩
    obtain ⟨xs, ea, q⟩ := F.it
    refine w _ M' H' (F.S.put fun z ez => ?_) ⟨fun b o e n => F.keep b o e fun z => n (by rw [z]; exact S.mt), fun b m => (F.sub b m).imp id fun z => by rw [z]; exact F.new⟩
    cases ez
    exact ⟨⟨a, xs, rfl, ea, F.lk, S.fresh0 F.new, q⟩, fun _ j t ej oj _ => F.no j t ej oj⟩
theorem ds_own {i : Nat} {x : Str} {pos' : Pos} {f : FF} (hN : X.N.Nodup) (hi : X.N[i]? = some x) (hx : Loc X.env.scope x) (he : DN X e f) (hs : swapsWith e (some (.Name x pos')) pos.line X.env = pure false := by rfl) (hf : X.fn x = true ∨ X.env.scope.names.lookup x = some .local := by first | exact .inl rfl | exact .inr rfl | assumption) :
    DS X (.Assign [.Name x pos'] e pos) (ownS i f) := (ps_set hN hi hx he hs hf).mono fun D σ H h => own_td h
/-- x += e, ints -/
def augS (i : Nat) (f : EF) : SF := fun ρ τ => match ρ[i]? with
  | some (some (.val (.dat (.int n)))) => (f ρ τ).bind fun r => match r.1 with
      | .dat (.int m) => some (.nx (r.2.1.set i (some (.val (.dat (.int (n + m)))))) r.2.2)
      | _ => none
  | _ => none
theorem ds_aug {i : Nat} {x : Str} {pos' : Pos} (hN : X.N.Nodup) (hi : X.N[i]? = some x) (hx : Loc X.env.scope x) (he : DE X e f) (hf : X.fn x = true ∨ X.env.scope.names.lookup x = some .local := by first | exact .inl rfl | exact .inr rfl | assumption) :
    DS X (.AugAssign (.Name x pos') .Add e pos) (augS i f) := (ps_aug hN hi hx he ip_add hf).mono fun D σ H ⟨T, M0, H0, M, ρ, τ, o, S, ef, w⟩ => by
  unfold augS at ef
  split at ef
  · next n e0 =>
    obtain ⟨v0, ev0, q0⟩ := S.sl i _ e0
    cases (show Rp M H v0 _ from q0)
    cases e1 : f ρ τ with
    | none => rw [e1] at ef; cases ef
    | some r =>
      obtain ⟨w1, ρ1, τ1⟩ := r
      rw [e1] at ef
      simp only [Option.bind_some] at ef
      refine ⟨_, ev0, T, M0, H0, M, ρ, τ, w1, ρ1, τ1, S, e1, fun v M' H' S' x r => ?_⟩
      split at ef
      · cases ef
        cases (show Rp M' H' v _ from r)
        exact ⟨_, _, rfl, rfl, w _ M' H' (S'.putVal (Rp.int _)) (x.later S.mt)⟩
      · cases ef
  · cases ef
/-- x = y = e (a constant) -/
def set2S (i j : Nat) (f : EF) : SF := fun ρ τ => (f ρ τ).map fun r => .nx ((r.2.1.set i (some (.val r.1))).set j (some (.val r.1))) r.2.2

/-! ### targets -/
abbrev GF := PyData → EnvD → Option EnvD
/-- only these slots are stored -/
structure Foot (is : List Nat) (σ σ' : St) : Prop where
  len : σ'.length = σ.length
  out : ∀ j : Nat, j ∉ is → σ'[j]? = σ[j]?
theorem Foot.refl (σ : St) : Foot [] σ σ := ⟨rfl, fun _ _ => rfl⟩
theorem Foot.trans {is js : List Nat} {a b c : St} (h : Foot is a b) (k : Foot js b c) : Foot (is ++ js) a c :=
  ⟨k.len.trans h.len, fun j n => (k.out j fun z => n (List.mem_append_right _ z)).trans (h.out j fun z => n (List.mem_append_left _ z))⟩
/-- an item; b = false: a pair that is unpacked at once counts -/
def Ry (b : Bool) (M : MS) (H : Hp) (v : V) (d : PyData) : Prop := Rp M H v d ∨ (b = false ∧ ∃ a vs ds, v = .ref a ∧ d = .tuple ds ∧ H a = some (.tup vs) ∧ RpAll M H vs ds)
theorem Ry.rp {M : MS} {H : Hp} {v : V} {d : PyData} (h : Ry true M H v d) : Rp M H v d := h.resolve_right fun z => by cases z.1
def tDG (X : Cx) (b : Bool) (is : List Nat) (g : GF) : TG := fun v σ H Q => ∃ T M0 H0 M ρ τ d ρ', SI (cf X T) M0 H0 M ρ τ σ H ∧ Ry b M H v d ∧ g d ρ = some ρ' ∧ ∀ σ', SI (cf X T) M0 H0 M ρ' τ σ' H → Foot is σ σ' → Q σ' H
def DG (X : Cx) (e : Expr) (b : Bool) (is : List Nat) (g : GF) : Prop := PG X e (tDG X b is g)
def nameG (i : Nat) : GF := fun d ρ => some (ρ.set i (some (.val (.dat d))))
theorem dg_name {i : Nat} {x : Str} (hN : X.N.Nodup) (hi : X.N[i]? = some x) (hx : Loc X.env.scope x) (hf : X.fn x = true ∨ X.env.scope.names.lookup x = some .local := by first | exact .inl rfl | exact .inr rfl | assumption) : DG X (.Name x pos) true [i] (nameG i) :=
  (pg_name hN hi hx hf).mono fun v σ H Q ⟨T, M0, H0, M, ρ, τ, d, ρ', S, r, eg, k⟩ => by
    cases eg
    exact k _ (S.putVal r.rp) ⟨List.length_set .., fun j n => List.getElem?_set_ne fun z => n (by rw [z]; exact List.mem_cons_self)⟩
abbrev GFs := List PyData → EnvD → Option EnvD
def tDGs (X : Cx) (is : List Nat) (g : GFs) : TGs := fun vs σ H Q => ∃ T M0 H0 M ρ τ ds ρ', SI (cf X T) M0 H0 M ρ τ σ H ∧ RpAll M H vs ds ∧ g ds ρ = some ρ' ∧ ∀ σ', SI (cf X T) M0 H0 M ρ' τ σ' H → Foot is σ σ' → Q σ' H
def DGs (X : Cx) (es : List Expr) (is : List Nat) (g : GFs) : Prop := PGs X es (tDGs X is g)
theorem _root_.L2.PGs.mono {X : Cx} {e : List Expr} {t t' : TGs} (h : PGs X e t) (i : ∀ v σ H Q, t' v σ H Q → t v σ H Q) : PGs X e t' := ⟨fun pins s σ H v u Q I r q => h.run pins s σ H v u Q I r (i v σ H Q q)⟩
def nilG : GFs := fun ds ρ => match ds with
  | [] => some ρ
  | _ :: _ => none
def consG (g : GF) (h : GFs) : GFs := fun ds ρ => match ds with
  | [] => none
  | d :: ds => (g d ρ).bind fun ρ1 => h ds ρ1
theorem dgs_nil : DGs X [] [] nilG := pgs_nil.mono fun vs σ H Q ⟨T, M0, H0, M, ρ, τ, ds, ρ', S, r, eg, k⟩ => by
  cases ds with
  | nil => cases eg; cases r; exact ⟨rfl, k σ S (Foot.refl σ)⟩
  | cons _ _ => cases eg
theorem dgs_cons {es : List Expr} {is js : List Nat} {g : GF} {h : GFs} (h1 : DG X e true is g) (h2 : DGs X es js h) (hs : (assignEach (e :: es) X.env).map (·.2) = assign e X.env :: (assignEach es X.env).map (·.2) := by rfl) : DGs X (e :: es) (is ++ js) (consG g h) :=
  (pgs_cons h1 h2 hs).mono fun vs σ H Q ⟨T, M0, H0, M, ρ, τ, ds, ρ', S, r, eg, k⟩ => by
    cases ds with
    | nil => cases eg
    | cons d ds =>
      cases r with
      | cons r1 r2 =>
        cases e1 : g d ρ with
        | none => rw [show consG g h (d :: ds) ρ = (g d ρ).bind fun ρ1 => h ds ρ1 from rfl, e1] at eg; cases eg
        | some ρ1 =>
          rw [show consG g h (d :: ds) ρ = (g d ρ).bind fun ρ1 => h ds ρ1 from rfl, e1] at eg
          refine ⟨_, _, rfl, T, M0, H0, M, ρ, τ, d, ρ1, S, .inl r1, e1, fun σ' S' f' => ?_⟩
          exact ⟨T, M0, H0, M, ρ1, τ, ds, ρ', S', r2, eg, fun σ2 S2 f2 => k σ2 S2 (f'.trans f2)⟩
def tupG (n : Nat) (h : GFs) : GF := fun d ρ => match d with
  | .tuple ds => if ds.length = n then h ds ρ else none
  | _ => none
theorem dg_tup {es : List Expr} {b : Bool} {k n : Nat} {is : List Nat} {g : GFs} (hc : X.calm = true) (h : DGs X es is g) (hn : (assignEach es X.env).length = n := by rfl) (hst : (assignEach es X.env).findIdx? (·.1) = none := by rfl) : DG X (.Tuple es k pos) b is (tupG n g) :=
  (pg_tup hc h hn hst).mono fun v σ H Q ⟨T, M0, H0, M, ρ, τ, d, ρ', S, r, eg, k⟩ => by
    unfold tupG at eg
    split at eg
    · split at eg
      · next ds hl =>
        rcases r with r | ⟨_, a, vs, ds', rfl, ed, e1, q1⟩
        · cases (show Rp M H v (.tuple ds) from r) with
          | tup e1 d1 n1 q1 => exact ⟨_, _, rfl, sqt e1, q1.length.trans hl, T, M0, H0, M, ρ, τ, ds, ρ', S, q1, eg, k⟩
        · cases ed
          exact ⟨_, _, rfl, SqT.of e1, q1.length.trans hl, T, M0, H0, M, ρ, τ, ds, ρ', S, q1, eg, k⟩
      · cases eg
    · cases eg
/-- a, b = e -/
def unpS (f : EF) (g : GF) : SF := fun ρ τ => (f ρ τ).bind fun r => match r.1 with
  | .dat d => (g d r.2.1).map fun ρ' => .nx ρ' r.2.2
  | _ => none
theorem ds_unp {tg : Expr} {is : List Nat} {g : GF} (he : DE X e f) (hg : DG X tg true is g) (hs : swapsWithSole [tg] e pos.line X.env = pure false := by rfl) (hw : swappedStores [tg] e X.env = pure none := by rfl)
    (h1 : (assignEach [tg] X.env).map (·.2) = [assign tg X.env] := by rfl) : DS X (.Assign [tg] e pos) (unpS f g) := (ps_asg he hg hs hw h1).mono fun D σ H ⟨T, M0, H0, M, ρ, τ, o, S, ef, w⟩ => by
  unfold unpS at ef
  cases e1 : f ρ τ with
  | none => rw [e1] at ef; cases ef
  | some r =>
    obtain ⟨w1, ρ1, τ1⟩ := r
    rw [e1] at ef
    simp only [Option.bind_some] at ef
    refine ⟨T, M0, H0, M, ρ, τ, w1, ρ1, τ1, S, e1, fun v M' H' S' x r => ?_⟩
    split at ef
    · next d =>
      cases e2 : g d ρ1 with
      | none => rw [e2] at ef; cases ef
      | some ρ2 =>
        rw [e2] at ef
        cases ef
        exact ⟨T, M0, H0, M', ρ1, _, d, ρ2, S', .inl r, e2, fun σ' S2 _ => w σ' M' H' S2 (x.later S.mt)⟩
    · cases ef
/-- a, b = x, y -/
def parS (is : List Nat) (h : AF) : SF := fun ρ τ => (h ρ τ).bind fun r => if r.1.length = is.length then some (.nx ((is.zip r.1).foldl (fun ρ q => ρ.set q.1 (some (.val q.2))) r.2.1) r.2.2) else none
variable {h : AF}
theorem ds_par2 {i j : Nat} {x y : Str} {px py pt : Pos} {kt k2 pt2} (hc : X.calm = true) (hN : X.N.Nodup) (hi : X.N[i]? = some x) (hj : X.N[j]? = some y) (hij : i ≠ j)
    (hx : X.env.scope.names.lookup x = some .local) (hy : X.env.scope.names.lookup y = some .local) (ha : DA X [a, b] h)
    (hw : swappedStores [.Tuple [.Name x px, .Name y py] kt pt] (.Tuple [a, b] k2 pt2) X.env = pure (some [x, y]))
    (hs : swapsWithSole [.Tuple [.Name x px, .Name y py] kt pt] (.Tuple [a, b] k2 pt2) pos.line X.env = pure false := by rfl) :
    DS X (.Assign [.Tuple [.Name x px, .Name y py] kt pt] (.Tuple [a, b] k2 pt2) pos) (parS [i, j] h) := (ps_par hc hN hi hj hij hx hy ha hw hs).mono fun D σ H ⟨T, M0, H0, M, ρ, τ, o, S, ef, w⟩ => by
  unfold parS at ef
  cases e1 : h ρ τ with
  | none => rw [e1] at ef; cases ef
  | some r =>
    obtain ⟨ws, ρ1, τ1⟩ := r
    rw [e1] at ef
    simp only [Option.bind_some] at ef
    refine ⟨T, M0, H0, M, ρ, τ, ws, ρ1, τ1, S, e1, fun vs M' H' S' x r => ?_⟩
    split at ef
    · next hl =>
      cases r with
      | nil => cases hl
      | cons r1 r2 =>
        cases r2 with
        | nil => cases hl
        | cons r2 r3 =>
          cases r3 with
          | cons _ _ => simp at hl
          | nil =>
            cases ef
            exact ⟨_, _, rfl, w _ M' H' ((S'.putVal r1).putVal r2) (x.later S.mt)⟩
    · cases ef
theorem ds_par3 {i j l : Nat} {x y z : Str} {px py pz pt : Pos} {kt k2 pt2} (hc : X.calm = true) (hN : X.N.Nodup) (hi : X.N[i]? = some x) (hj : X.N[j]? = some y) (hl : X.N[l]? = some z) (hij : i ≠ j) (hil : i ≠ l) (hjl : j ≠ l)
    (hx : X.env.scope.names.lookup x = some .local) (hy : X.env.scope.names.lookup y = some .local) (hz : X.env.scope.names.lookup z = some .local) (ha : DA X [a, b, c] h)
    (hw : swappedStores [.Tuple [.Name x px, .Name y py, .Name z pz] kt pt] (.Tuple [a, b, c] k2 pt2) X.env = pure (some [x, y, z]))
    (hs : swapsWithSole [.Tuple [.Name x px, .Name y py, .Name z pz] kt pt] (.Tuple [a, b, c] k2 pt2) pos.line X.env = pure false := by rfl) :
    DS X (.Assign [.Tuple [.Name x px, .Name y py, .Name z pz] kt pt] (.Tuple [a, b, c] k2 pt2) pos) (parS [i, j, l] h) := (ps_par3 hc hN hi hj hl hij hil hjl hx hy hz ha hw hs).mono fun D σ H ⟨T, M0, H0, M, ρ, τ, o, S, ef, w⟩ => by
  unfold parS at ef
  cases e1 : h ρ τ with
  | none => rw [e1] at ef; cases ef
  | some r =>
    obtain ⟨ws, ρ1, τ1⟩ := r
    rw [e1] at ef
    simp only [Option.bind_some] at ef
    refine ⟨T, M0, H0, M, ρ, τ, ws, ρ1, τ1, S, e1, fun vs M' H' S' x r => ?_⟩
    split at ef
    · next hl =>
      cases r with
      | nil => cases hl
      | cons r1 r2 =>
        cases r2 with
        | nil => cases hl
        | cons r2 r3 =>
          cases r3 with
          | nil => cases hl
          | cons r3 r4 =>
            cases r4 with
            | cons _ _ => simp at hl
            | nil =>
              cases ef
              exact ⟨_, _, _, rfl, w _ M' H' (((S'.putVal r1).putVal r2).putVal r3) (x.later S.mt)⟩
    · cases ef

/-! ### while -/
def whileS (p : BF) (F : SF) : Nat → SF
  | 0 => fun _ _ => none
  | n + 1 => fun ρ τ => (p ρ τ).bind fun r => if r.1 = true then (F r.2.1 r.2.2).bind fun o => match o with
      | .nx ρ' τ' => whileS p F n ρ' τ'
      | .ct ρ' τ' => whileS p F n ρ' τ'
      | .bk ρ' τ' => some (.nx ρ' τ')
      | .rt w τ' => some (.rt w τ')
    else some (.nx r.2.1 r.2.2)
theorem ds_while (n : Nat) {body : List Stmt} (hp : PassesOwn (model X.prog X.w) X.A X.env X.xe) (hc : DT X c p) (hb : DSs X body F) : DS X (.While c body [] pos) (whileS p F n) := (ps_while hp hc hb).mono fun D σ H ⟨T, M0, H0, M, ρ, τ, o, S, ef, w⟩ => by
  refine ⟨fun m σ1 H1 => ∃ M1 ρ1 τ1, SI (cf X T) M0 H0 M1 ρ1 τ1 σ1 H1 ∧ Later M H M1 H1 ∧ whileS p F m ρ1 τ1 = some o, ⟨n, M, ρ, τ, S, Later.refl .., ef⟩, ?_⟩
  rintro m σ1 H1 ⟨M1, ρ1, τ1, S1, L1, e1⟩
  cases m with
  | zero => cases e1
  | succ m =>
    unfold whileS at e1
    cases e2 : p ρ1 τ1 with
    | none => rw [e2] at e1; cases e1
    | some r =>
      obtain ⟨b, ρ2, τ2⟩ := r
      rw [e2] at e1
      simp only [Option.bind_some] at e1
      refine ⟨T, M0, H0, M1, ρ1, τ1, b, ρ2, τ2, S1, e2, fun M2 H2 S2 x2 => ?_⟩
      have L2 := L1.trans (x2.later S1.mt)
      cases b with
      | false =>
        rw [if_neg Bool.false_ne_true] at e1
        cases e1
        exact iteF (w σ1 M2 H2 S2 L2)
      | true =>
        rw [if_pos rfl] at e1
        refine iteT ⟨fun σ' H' => ∃ M1 ρ1 τ1, SI (cf X T) M0 H0 M1 ρ1 τ1 σ' H' ∧ Later M H M1 H' ∧ whileS p F m ρ1 τ1 = some o, fun σ' H' q => ⟨m, Nat.lt_succ_self m, q⟩, ?_⟩
        cases e3 : F ρ2 τ2 with
        | none => rw [e3] at e1; cases e1
        | some o3 =>
          rw [e3] at e1
          simp only [Option.bind_some] at e1
          refine ⟨T, M0, H0, M2, ρ2, τ2, o3, S2, e3, ?_⟩
          cases o3 with
          | nx ρ3 τ3 => exact fun σ' M' H' S' L => ⟨M', ρ3, τ3, S', L2.trans L, e1⟩
          | ct ρ3 τ3 => exact fun σ' M' H' S' L => ⟨M', ρ3, τ3, S', L2.trans L, e1⟩
          | bk ρ3 τ3 =>
            cases e1
            exact fun σ' M' H' S' L => w σ' M' H' S' (L2.trans L)
          | rt w3 τ3 =>
            cases e1
            exact w

/-! ### for -/
structure ItD (bb : Bool) (J : It) (M : MS) (H : Hp) (items : List PyData) : Prop where
  go : ∀ M2 H2, Later M H M2 H2 → (∀ b, M2 b → H2 b ≠ none) → ∀ (i : Nat) d, items[i]? = some d → J.go i H2 ∧ ∀ x H3, J.yld i H2 x H3 → Gr H2 H3 ∧ Ry bb M2 H3 x d
  stop : ∀ M2 H2, Later M H M2 H2 → J.stop items.length H2
def tDI (X : Cx) (bb : Bool) (h : FF) : TI := fun σ H R => ∃ T M0 H0 M ρ τ items ρ' τ', SI (cf X T) M0 H0 M ρ τ σ H ∧ h ρ τ = some (items, ρ', τ') ∧ ∀ J M' H', SI (cf X T) M0 H0 M' ρ' τ' σ H' → Ex T M H M' H' → ItD bb J M' H' items → R J H'
def DI (X : Cx) (tg e : Expr) (bb : Bool) (h : FF) : Prop := PI X tg e (tDI X bb h)
def forL (g : GF) (F : SF) : List PyData → SF
  | [] => fun ρ τ => some (.nx ρ τ)
  | d :: ds => fun ρ τ => (g d ρ).bind fun ρ1 => (F ρ1 τ).bind fun o => match o with
      | .nx ρ' τ' => forL g F ds ρ' τ'
      | .ct ρ' τ' => forL g F ds ρ' τ'
      | .bk ρ' τ' => some (.nx ρ' τ')
      | .rt w τ' => some (.rt w τ')
def forS (h : FF) (g : GF) (F : SF) : SF := fun ρ τ => (h ρ τ).bind fun r => forL g F r.1 r.2.1 r.2.2
theorem ds_for {tg iter : Expr} {bb : Bool} {body : List Stmt} {is : List Nat} {h : FF} {g : GF} (hp : PassesOwn (model X.prog X.w) X.A X.env X.xe) (hc : X.calm = true) (hi : DI X tg iter bb h) (hg : DG X tg bb is g) (hb : DSs X body F)
    (hs : ∀ x, foldedSetIterable iter X.env x = pure x := by intro _; rfl) : DS X (.For tg iter body [] pos) (forS h g F) := (ps_for hp hc hi hg hb hs).mono fun D σ H ⟨T, M0, H0, M, ρ, τ, o, S, ef, w⟩ => by
  unfold forS at ef
  cases e1 : h ρ τ with
  | none => rw [e1] at ef; cases ef
  | some r =>
    obtain ⟨items, ρ1, τ1⟩ := r
    rw [e1] at ef
    simp only [Option.bind_some] at ef
    refine ⟨T, M0, H0, M, ρ, τ, items, ρ1, τ1, S, e1, fun J M1 H1 S1 x1 it => ?_⟩
    refine ⟨fun i m σ2 H2 => m = items.length - i ∧ i ≤ items.length ∧ ∃ M2 ρ2 τ2, SI (cf X T) M0 H0 M2 ρ2 τ2 σ2 H2 ∧ Later M1 H1 M2 H2 ∧ forL g F (items.drop i) ρ2 τ2 = some o, ⟨items.length, by simp, Nat.zero_le _, M1, ρ1, τ1, S1, Later.refl .., by rw [List.drop_zero]; exact ef⟩, ?_⟩
    rintro i m σ2 H2 ⟨rfl, hi, M2, ρ2, τ2, S2, L2, e2⟩
    have LL := (x1.later S.mt).trans L2
    by_cases hlt : i < items.length
    · rw [List.drop_eq_getElem_cons hlt] at e2
      obtain ⟨go, yl⟩ := it.go M2 H2 L2 S2.trk i items[i] (List.getElem?_eq_getElem hlt)
      refine .inr ⟨go, fun σ' H' => i + 1 ≤ items.length ∧ ∃ M3 ρ3 τ3, SI (cf X T) M0 H0 M3 ρ3 τ3 σ' H' ∧ Later M1 H1 M3 H' ∧ forL g F (items.drop (i + 1)) ρ3 τ3 = some o, fun σ' H' q => ⟨items.length - (i + 1), by omega, rfl, q⟩, fun x H3 y => ?_⟩
      obtain ⟨gr, rx⟩ := yl x H3 y
      unfold forL at e2
      cases e3 : g items[i] ρ2 with
      | none => rw [e3] at e2; cases e2
      | some ρ3 =>
        rw [e3] at e2
        simp only [Option.bind_some] at e2
        refine ⟨T, M0, H0, M2, ρ2, τ2, items[i], ρ3, S2.grow gr, rx, e3, fun σ3 S3 _ => ?_⟩
        cases e4 : F ρ3 τ2 with
        | none => rw [e4] at e2; cases e2
        | some o4 =>
          rw [e4] at e2
          simp only [Option.bind_some] at e2
          refine ⟨T, M0, H0, M2, ρ3, τ2, o4, S3, e4, ?_⟩
          have L3 : Later M1 H1 M2 H3 := L2.trans gr.later
          cases o4 with
          | nx ρ4 τ4 => exact fun σ' M' H' S' L => ⟨hlt, M', ρ4, τ4, S', L3.trans L, e2⟩
          | ct ρ4 τ4 => exact fun σ' M' H' S' L => ⟨hlt, M', ρ4, τ4, S', L3.trans L, e2⟩
          | bk ρ4 τ4 =>
            cases e2
            exact fun σ' M' H' S' L => w σ' M' H' S' ((LL.trans gr.later).trans L)
          | rt w4 τ4 =>
            cases e2
            exact w
    · have ei : i = items.length := by omega
      subst ei
      rw [List.drop_length] at e2
      cases e2
      exact .inl ⟨it.stop M2 H2 L2, w σ2 M2 H2 S2 LL⟩

/-! ### what is walked -/
def iSeq (K : PySem.W.Frag) (tl : TE) : TI := fun σ H R => tl σ H fun x H1 => ∃ a, x = .ref a ∧ ((∃ xs, SqL K H1 a xs ∧ R (Itl K a) H1) ∨ (∃ xs, SqT K H1 a xs ∧ R (Itt K a) H1))
theorem pi_seq {tg l : Expr} {tl : TE} (hl : PE X l tl) : PI X tg l (iSeq X.K tl) := .mk fun pins s σ H R I h => thn (hl.run pins s σ H _ I h) fun v s1 ⟨x, H1, I1, rx, a, ex, q⟩ => by
  subst ex
  cases rx
  rcases q with ⟨xs, sq, q⟩ | ⟨xs, sq, q⟩
  · obtain ⟨_, _, pl, _⟩ := I1.list sq
    exact wpAny_pyIter_list pl.isList (pi_one (tk := s1.toks) I1 _ (turn_list a _) ⟨_, Heap.get?_push_size _ rfl, rfl, rfl⟩ q)
  · obtain ⟨its, _, pl, _⟩ := I1.tuple sq
    exact wpAny_pyIter_tuple (items := its.toArray) pl (pi_one (tk := s1.toks) I1 _ (turn_tuple a _) ⟨_, Heap.get?_push_size _ rfl, rfl, rfl⟩ q)
def itemsOf : W → Option (List PyData)
  | .dat (.list ds) => some ds
  | .dat (.tuple ds) => some ds
  | _ => none
def seqI (f : EF) : FF := fun ρ τ => (f ρ τ).bind fun r => (itemsOf r.1).map fun ds => (ds, r.2.1, r.2.2)
theorem itd_list {K : PySem.W.Frag} {M : MS} {H : Hp} {a : Addr} {xs : List V} {ds : List PyData} (e : H a = some (.lst xs)) (n : ¬ M a) (q : RpAll M H xs ds) : ItD true (Itl K a) M H ds where
  go := fun M2 H2 L _ i d ed => by
    obtain ⟨v, ev, rv⟩ := (RpAll.later L _ _ q).get ed
    have e2 := L.keep _ _ e n
    refine ⟨⟨xs, v, SqL.of e2, ev⟩, fun x H3 ⟨eh, y⟩ => ?_⟩
    subst eh
    have := y xs (SqL.of e2)
    rw [ev] at this
    cases this
    exact ⟨Gr.refl _, .inl rv⟩
  stop := fun M2 H2 L => ⟨xs, SqL.of (L.keep _ _ e n), by rw [q.length]; exact Nat.le_refl _⟩
theorem itd_tup {K : PySem.W.Frag} {M : MS} {H : Hp} {a : Addr} {o : Obj} {xs : List V} {ds : List PyData} (e : H a = some (.frz o (.tup xs))) (n : ¬ M a) (q : RpAll M H xs ds) : ItD true (Itt K a) M H ds where
  go := fun M2 H2 L _ i d ed => by
    obtain ⟨v, ev, rv⟩ := (RpAll.later L _ _ q).get ed
    have e2 := L.keep _ _ e n
    refine ⟨⟨xs, v, sqt e2, ev⟩, fun x H3 ⟨eh, y⟩ => ?_⟩
    subst eh
    have := y xs (sqt e2)
    rw [ev] at this
    cases this
    exact ⟨Gr.refl _, .inl rv⟩
  stop := fun M2 H2 L => ⟨xs, sqt (L.keep _ _ e n), by rw [q.length]; exact Nat.le_refl _⟩
theorem di_seq {tg : Expr} (he : DE X e f) : DI X tg e true (seqI f) := (pi_seq he).mono fun σ H R ⟨T, M0, H0, M, ρ, τ, items, ρ', τ', S, ef, k⟩ => by
  unfold seqI at ef
  cases e1 : f ρ τ with
  | none => rw [e1] at ef; cases ef
  | some r =>
    obtain ⟨w1, ρ1, τ1⟩ := r
    rw [e1] at ef
    simp only [Option.bind_some] at ef
    refine ⟨T, M0, H0, M, ρ, τ, w1, ρ1, τ1, S, e1, fun v M' H' S' x r => ?_⟩
    unfold itemsOf at ef
    split at ef
    · next ds =>
      cases ef
      cases (show Rp M' H' v (.list items) from r) with
      | lst e2 n2 q2 => exact ⟨_, rfl, .inl ⟨_, SqL.of e2, k _ M' H' S' x (itd_list e2 n2 q2)⟩⟩
    · next ds =>
      cases ef
      cases (show Rp M' H' v (.tuple items) from r) with
      | tup e2 d2 n2 q2 => exact ⟨_, rfl, .inr ⟨_, sqt e2, k _ M' H' S' x (itd_tup e2 n2 q2)⟩⟩
    · cases ef
/-- range -/
def rangeD (lo : Int) (n : Nat) : List PyData := (List.range n).map fun (i : Nat) => .int (lo + i)
theorem itd_range {M : MS} {H : Hp} (lo : Int) (n : Nat) : ItD true (Itr lo n) M H (rangeD lo n) where
  go := fun M2 H2 L _ i d ed => by
    unfold rangeD at ed
    rw [List.getElem?_map] at ed
    by_cases hi : i < n
    · rw [List.getElem?_range hi] at ed
      cases ed
      refine ⟨hi, fun x H3 ⟨eh, y⟩ => ?_⟩
      subst eh y
      exact ⟨Gr.refl _, .inl (.int _)⟩
    · rw [List.getElem?_eq_none (by rw [List.length_range]; omega)] at ed
      cases ed
  stop := fun M2 H2 L => by
    show n ≤ (rangeD lo n).length
    unfold rangeD
    rw [List.length_map, List.length_range]
    exact Nat.le_refl _
def rng1I (h : AF) : FF := fun ρ τ => (h ρ τ).bind fun r => match r.1 with
  | [.dat (.int j)] => if -4611686018427387904 ≤ j ∧ j < 4611686018427387904 then some (rangeD 0 j.toNat, r.2.1, r.2.2) else none
  | _ => none
def rng2I (h : AF) : FF := fun ρ τ => (h ρ τ).bind fun r => match r.1 with
  | [.dat (.int i), .dat (.int j)] => if (-4611686018427387904 ≤ i ∧ i < 4611686018427387904) ∧ -4611686018427387904 ≤ j ∧ j < 4611686018427387904 then some (rangeD i (j - i).toNat, r.2.1, r.2.2) else none
  | _ => none
variable {q : Pos}
theorem di_range1 {tg : Expr} (hg : Gl X "range") (hm : X.mg "range" = none) (ha : DAB X [a] h) (hs : starEach [a] X.env = [(false, eval a X.env)] := by rfl) : DI X tg (.Call (.Name "range" q) [a] [] pos) true (rng1I h) :=
  (pi_range1 hg hm ha hs).mono fun σ H R ⟨T, M0, H0, M, ρ, τ, items, ρ', τ', S, ef, k⟩ => by
    unfold rng1I at ef
    cases e1 : h ρ τ with
    | none => rw [e1] at ef; cases ef
    | some r =>
      obtain ⟨ws, ρ1, τ1⟩ := r
      rw [e1] at ef
      simp only [Option.bind_some] at ef
      refine ⟨T, M0, H0, M, ρ, τ, ws, ρ1, τ1, S, e1, fun vs M' H' S' x r => ?_⟩
      split at ef
      · next j =>
        split at ef
        · next hj =>
          cases ef
          cases r with
          | cons r1 r2 =>
            cases r2
            cases (show Rp M' H' _ _ from r1)
            exact ⟨j, rfl, by omega, by omega, k _ M' H' S' x (itd_range 0 _)⟩
        · cases ef
      · cases ef
theorem di_range2 {tg : Expr} (hg : Gl X "range") (hm : X.mg "range" = none) (ha : DAB X [a, b] h) (hs : starEach [a, b] X.env = [(false, eval a X.env), (false, eval b X.env)] := by rfl) (hs2 : starEach [b] X.env = [(false, eval b X.env)] := by rfl) : DI X tg (.Call (.Name "range" q) [a, b] [] pos) true (rng2I h) :=
  (pi_range2 hg hm ha hs hs2).mono fun σ H R ⟨T, M0, H0, M, ρ, τ, items, ρ', τ', S, ef, k⟩ => by
    unfold rng2I at ef
    cases e1 : h ρ τ with
    | none => rw [e1] at ef; cases ef
    | some r =>
      obtain ⟨ws, ρ1, τ1⟩ := r
      rw [e1] at ef
      simp only [Option.bind_some] at ef
      refine ⟨T, M0, H0, M, ρ, τ, ws, ρ1, τ1, S, e1, fun vs M' H' S' x r => ?_⟩
      split at ef
      · next i j =>
        split at ef
        · next hj =>
          cases ef
          cases r with
          | cons r1 r2 =>
            cases r2 with
            | cons r2 r3 =>
              cases r3
              cases (show Rp M' H' _ _ from r1)
              cases (show Rp M' H' _ _ from r2)
              exact ⟨i, j, rfl, ⟨by omega, by omega, by omega, by omega⟩, k _ M' H' S' x (itd_range i _)⟩
        · cases ef
      · cases ef
/-- zip of two lists or of two tuples -/
def zipD (xs ys : List PyData) : List PyData := (xs.zip ys).map fun q => .tuple [q.1, q.2]
def zipI (h : AF) : FF := fun ρ τ => (h ρ τ).bind fun r => match r.1 with
  | [.dat (.list xs), .dat (.list ys)] => some (zipD xs ys, r.2.1, r.2.2)
  | [.dat (.tuple xs), .dat (.tuple ys)] => some (zipD xs ys, r.2.1, r.2.2)
  | _ => none
theorem zipD_get {xs ys : List PyData} {i : Nat} {d : PyData} (h : (zipD xs ys)[i]? = some d) : ∃ x y, xs[i]? = some x ∧ ys[i]? = some y ∧ d = .tuple [x, y] := by
  unfold zipD at h
  rw [List.getElem?_map] at h
  cases e : (xs.zip ys)[i]? with
  | none => rw [e] at h; cases h
  | some q =>
    rw [e] at h
    cases h
    obtain ⟨x, y⟩ := q
    obtain ⟨h1, h2⟩ := List.getElem?_zip_eq_some.mp e
    exact ⟨x, y, h1, h2, rfl⟩
theorem zipD_length (xs ys : List PyData) : (zipD xs ys).length = min xs.length ys.length := by
  unfold zipD
  rw [List.length_map, List.length_zip]
theorem zip_yld {M2 : MS} {H2 H3 : Hp} {p : Addr} {v1 v2 : V} {d1 d2 : PyData} (tr : ∀ b, M2 b → H2 b ≠ none) (n : H2 p = none) (e : H3 = upd H2 p (.tup [v1, v2])) (r1 : Rp M2 H2 v1 d1) (r2 : Rp M2 H2 v2 d2) : Gr H2 H3 ∧ Ry false M2 H3 (.ref p) (.tuple [d1, d2]) := by
  subst e
  exact ⟨Gr.upd n, .inr ⟨rfl, p, _, _, rfl, rfl, upd_same, .cons (Rp.later (Gr.upd n).later _ _ r1) (.cons (Rp.later (Gr.upd n).later _ _ r2) .nil)⟩⟩
theorem di_zip {elts : List Expr} {kk : Nat} {tpos : Pos} (hg : Gl X "zip") (hm : X.mg "zip" = none) (ha : DA X [a, b] h) (hs : starEach [a, b] X.env = (false, eval a X.env) :: starEach [b] X.env := by rfl) (hpl : (backTo pos (starEach [b] X.env)).any (·.1) = false := by rfl) :
    DI X (.Tuple elts kk tpos) (.Call (.Name "zip" q) [a, b] [] pos) false (zipI h) :=
  (RZ.pi_zipA hg hm ha hs hpl).mono fun σ H R ⟨T, M0, H0, M, ρ, τ, items, ρ', τ', S, ef, k⟩ => by
    unfold zipI at ef
    cases e1 : h ρ τ with
    | none => rw [e1] at ef; cases ef
    | some r =>
      obtain ⟨ws, ρ1, τ1⟩ := r
      rw [e1] at ef
      simp only [Option.bind_some] at ef
      refine ⟨T, M0, H0, M, ρ, τ, ws, ρ1, τ1, S, e1, fun vs M' H' S' x r => ?_⟩
      split at ef
      · next ds es =>
        cases ef
        cases r with
        | cons r1 r2 =>
          cases r2 with
          | cons r2 r3 =>
            cases r3
            cases (show Rp M' H' _ (.list ds) from r1) with
            | @lst l1 xs _ e1 n1 q1 =>
              cases (show Rp M' H' _ (.list es) from r2) with
              | @lst l2 ys _ e2 n2 q2 =>
                refine ⟨l1, l2, xs, ys, rfl, .inl ⟨SqL.of e1, SqL.of e2, k _ M' H' S' x ⟨fun M2 H2 L tr i d ed => ?_, fun M2 H2 L => ?_⟩⟩⟩
                · obtain ⟨x1, y1, h1, h2, rfl⟩ := zipD_get ed
                  obtain ⟨v1, ev1, rv1⟩ := (RpAll.later L _ _ q1).get h1
                  obtain ⟨v2, ev2, rv2⟩ := (RpAll.later L _ _ q2).get h2
                  have k1 : SqL X.K H2 l1 xs := SqL.of (L.keep _ _ e1 n1)
                  have k2 : SqL X.K H2 l2 ys := SqL.of (L.keep _ _ e2 n2)
                  refine ⟨⟨xs, ys, v1, v2, k1, k2, ev1, ev2⟩, ?_⟩
                  rintro _ H3 ⟨p, a1, a2, rfl, np, eh, f1, f2⟩
                  have z1 := f1 _ k1
                  have z2 := f2 _ k2
                  rw [ev1] at z1; cases z1
                  rw [ev2] at z2; cases z2
                  exact zip_yld tr np eh rv1 rv2
                · refine ⟨xs, ys, SqL.of (L.keep _ _ e1 n1), SqL.of (L.keep _ _ e2 n2), ?_⟩
                  rw [zipD_length, q1.length, q2.length]
                  omega
      · next ds es =>
        cases ef
        cases r with
        | cons r1 r2 =>
          cases r2 with
          | cons r2 r3 =>
            cases r3
            cases (show Rp M' H' _ (.tuple ds) from r1) with
            | @tup l1 _ xs _ e1 d1 n1 q1 =>
              cases (show Rp M' H' _ (.tuple es) from r2) with
              | @tup l2 _ ys _ e2 d2 n2 q2 =>
                refine ⟨l1, l2, xs, ys, rfl, .inr ⟨sqt e1, sqt e2, k _ M' H' S' x ⟨fun M2 H2 L tr i d ed => ?_, fun M2 H2 L => ?_⟩⟩⟩
                · obtain ⟨x1, y1, h1, h2, rfl⟩ := zipD_get ed
                  obtain ⟨v1, ev1, rv1⟩ := (RpAll.later L _ _ q1).get h1
                  obtain ⟨v2, ev2, rv2⟩ := (RpAll.later L _ _ q2).get h2
                  have k1 : SqT X.K H2 l1 xs := sqt (L.keep _ _ e1 n1)
                  have k2 : SqT X.K H2 l2 ys := sqt (L.keep _ _ e2 n2)
                  refine ⟨⟨xs, ys, v1, v2, k1, k2, ev1, ev2⟩, ?_⟩
                  rintro _ H3 ⟨p, a1, a2, rfl, np, eh, f1, f2⟩
                  have z1 := f1 _ k1
                  have z2 := f2 _ k2
                  rw [ev1] at z1; cases z1
                  rw [ev2] at z2; cases z2
                  exact zip_yld tr np eh rv1 rv2
                · refine ⟨xs, ys, sqt (L.keep _ _ e1 n1), sqt (L.keep _ _ e2 n2), ?_⟩
                  rw [zipD_length, q1.length, q2.length]
                  omega
      · cases ef
end
end ND

set_option Elab.async false
set_option linter.all false
set_option maxRecDepth 100000
set_option maxHeartbeats 4000000
/-! ND6: a def, changes of owned lists and of the tape, list comprehensions. -/
namespace ND
open PySem PySem.Spec L2
open PyProof.Rows hiding St

/-! ### a def -/
def startD (N : Nat) (ws : List W) : EnvD := ws.map (fun w => some (.val w)) ++ List.replicate (N - ws.length) none
def fnF (n N : Nat) (B : SF) : List W → Tape → Option (W × Tape) := fun ws τ => if ws.length = n then (B (startD N ws) τ).bind fun o => match o with
    | .rt w τ' => some (w, τ')
    | .nx _ τ' => some (.dat .none, τ')
    | .bk _ _ => none
    | .ct _ _ => none
  else none
theorem RwAll.get {C : Cf} {M : MS} {H : Hp} : ∀ {ws : List W} {vs : List V} {i : Nat} {w : W}, RwAll C M H ws vs → ws[i]? = some w → ∃ v, vs[i]? = some v ∧ Rw C M H w v
  | [], _, i, _, h, e => by simp at e
  | w :: ws, _, 0, _, h, e => by
    cases h with
    | cons h1 h2 =>
      cases (Option.some.inj e : w = _)
      exact ⟨_, rfl, h1⟩
  | w :: ws, _, i + 1, _, h, e => by
    cases h with
    | cons h1 h2 => exact RwAll.get (i := i) h2 e
theorem startD_get {N : Nat} {ws : List W} {i : Nat} {s : Sl} (h : (startD N ws)[i]? = some (some s)) : ∃ w, ws[i]? = some w ∧ s = .val w ∧ i < ws.length := by
  unfold startD at h
  by_cases hi : i < ws.length
  · rw [List.getElem?_append_left (by rw [List.length_map]; exact hi), List.getElem?_map, List.getElem?_eq_getElem hi] at h
    cases h
    exact ⟨_, List.getElem?_eq_getElem hi, rfl, hi⟩
  · rw [List.getElem?_append_right (by rw [List.length_map]; omega), List.getElem?_replicate] at h
    split at h <;> cases h
theorem SI.start {C : Cf} {M : MS} {H : Hp} {τ : Tape} {N : List Str} {ws : List W} {vs : List V} (t : TapeOk C.T M H τ) (tr : ∀ b, M b → H b ≠ none) (r : RwAll C M H ws vs) : SI C M H M (startD N.length ws) τ (start N vs) H := by
  refine ⟨?_, t, fun _ m => m, t.1, tr, tr, fun _ _ e _ => e, fun i s e => ?_, fun i j s t v e1 e2 o1 => ?_⟩
  · unfold startD L2.start
    simp only [List.length_append, List.length_map, List.length_replicate, r.length]
  · obtain ⟨w, ew, rfl, hi⟩ := startD_get e
    obtain ⟨v, ev, rv⟩ := r.get ew
    refine ⟨v, ?_, rv⟩
    unfold L2.start
    rw [List.getElem?_append_left (by rw [List.length_map, r.length]; exact hi), List.getElem?_map, ev]
    rfl
  · obtain ⟨w, ew, rfl, hi⟩ := startD_get e1
    cases o1
section
variable {P : Program} {w : World} {K : PySem.W.Frag} {mg : Str → Option Value} {base : Heap}
theorem fn_ok {x qual : Str} {st : Stmt} {f : Addr} {fd : FuncData} {N ps : List Str} {k : Nat} {B : SF} (F : Fun K x qual st f fd) (S : FnScope N ps (defScope st))
    (hbody : ∀ (cdv : Value) (A : Around) (outer : List Env) (s : Shared) (H : Hp) (E : XK), Room k (A.deeper (envOfC qual (defScope st) s.heap.objs.size f cdv)) →
      DSs (cxOf CX0 P w K mg base N qual (defScope st) f cdv A outer s H E).nox (defBody st) B) : FnOk P w K mg base CX0 (k + 1) f fd ps (spD P w (fnF ps.length N.length B)) := by
  refine F.ok S (fun vs H Q E h => ?_) (fun cdv A outer s H vs Q E hr h => ?_)
  · obtain ⟨T, M, τ, ws, r, τ', t, tr, rr, ef, k⟩ := h
    unfold fnF at ef
    split at ef
    · next hl => rw [rr.length]; exact hl
    · cases ef
  · refine ⟨_, hbody cdv A outer s H E hr, ?_⟩
    obtain ⟨T, M, τ, ws, r, τ', t, tr, rr, ef, k⟩ := h
    unfold fnF at ef
    split at ef
    · next hl =>
      cases e1 : B (startD N.length ws) τ with
      | none => rw [e1] at ef; cases ef
      | some o =>
        rw [e1] at ef
        simp only [Option.bind_some] at ef
        refine ⟨T, M, H, M, _, τ, o, SI.start (C := ⟨P, w, T⟩) t tr rr, e1, ?_⟩
        cases o with
        | rt w1 τ1 =>
          cases ef
          exact fun v H' t' fr r' => k v H' t' fr r'
        | nx ρ1 τ1 =>
          cases ef
          exact fun σ' M' H' S' L => k .non H' (S'.tp.later S'.back S'.t0 rfl) S'.fr Rp.non
        | bk ρ1 τ1 => cases ef
        | ct ρ1 τ1 => cases ef
    · cases ef
/-- a def of which nothing is known -/
theorem fn_none {f : Addr} {fd : FuncData} {ps : List Str} : FnOk P w K mg base CX0 0 f fd ps (spD P w fun _ _ => none) := by
  refine ⟨fun vs H Q E h => ?_, fun A outer s H args us vs Q E hr he hb hv h => ?_⟩
  · obtain ⟨T, M, τ, ws, r, τ', t, tr, rr, ef, k⟩ := h
    cases ef
  · obtain ⟨T, M, τ, ws, r, τ', t, tr, rr, ef, k⟩ := h
    cases ef
end

/-! ### changes -/
section
variable {C : Cf} {M0 : MS} {H0 : Hp} {M : MS} {ρ : EnvD} {τ : Tape} {σ : St} {H : Hp}
/-- a locked object, of no slot or of the slot i, is changed -/
theorem SI.poke {a : Addr} {o : HO} (S : SI C M0 H0 M ρ τ σ H) (m : M a) (nT : a ≠ C.T) (n0 : H0 a = none) (no : ∀ (i : Nat) s, ρ[i]? = some (some s) → s.isOwn = true → σ[i]? ≠ some (some (.ref a))) : SI C M0 H0 M ρ τ σ (upd H a o) ∧ Later M H M (upd H a o) := by
  have L : Later M H M (upd H a o) := ⟨fun b u e n => by rw [upd_ne (fun z => n (by rw [z]; exact m))]; exact e, fun _ m => .inl m⟩
  refine ⟨⟨S.len, S.tp.later L S.mt (upd_ne (Ne.symm nT)), S.m0, S.t0, fun b mb z => ?_, S.trk0, fun b u e n => ?_, fun i s e => ?_, S.nd⟩, L⟩
  · by_cases e : b = a
    · rw [e, upd_same] at z; cases z
    · rw [upd_ne e] at z; exact S.trk b mb z
  · rw [upd_ne (fun z => by rw [z, n0] at e; cases e)]; exact S.fr b u e n
  · obtain ⟨v, ev, q⟩ := S.sl i s e
    refine ⟨v, ev, q.step L fun o b eb => ?_⟩
    obtain ⟨a', ea', ma, _⟩ := q.own_ne o S.t0 S.trk0
    rw [eb] at ea'; cases ea'
    refine ⟨ma, upd_ne fun z => ?_⟩
    exact no i s e o (by rw [ev, eb, z])
/-- an owned list is changed -/
theorem SI.change {i : Nat} {ds ds' : List PyData} {xs' : List V} {a : Addr} (S : SI C M0 H0 M ρ τ σ H) (e : ρ[i]? = some (some (.own ds))) (ev : σ[i]? = some (some (.ref a))) (r : RpAll M H xs' ds') :
    SI C M0 H0 M (ρ.set i (some (.own ds'))) τ σ (upd H a (.lst xs')) ∧ Later M H M (upd H a (.lst xs')) := by
  obtain ⟨v, ev', q⟩ := S.sl i _ e
  rw [ev] at ev'
  cases ev'
  obtain ⟨a', ea', m, n0, nT⟩ := q.own_ne rfl S.t0 S.trk0
  cases ea'
  have S1 : SI C M0 H0 M (ρ.set i none) τ σ H := S.weak (by rw [List.length_set]; exact S.len) fun j t ej => by
    rcases get_set ej with ⟨_, z, _⟩ | ⟨ne, z⟩
    · cases z
    · exact ⟨z, rfl⟩
  have no : ∀ (j : Nat) t, (ρ.set i none)[j]? = some (some t) → t.isOwn = true → σ[j]? ≠ some (some (.ref a)) := fun j t ej oj => by
    rcases get_set ej with ⟨_, z, _⟩ | ⟨ne, z⟩
    · cases z
    · exact S.own_alone e rfl ev j t z oj ne
  obtain ⟨S2, L⟩ := S1.poke (o := .lst xs') m nT n0 no
  have S3 := S2.know (i := i) (s := .own ds') ev ⟨a, xs', rfl, upd_same, m, n0, RpAll.later L _ _ r⟩ fun _ j t ej oj _ => no j t ej oj
  rw [List.set_set] at S3
  exact ⟨S3, L⟩
end
section
variable {X : Cx} {e a b c : Expr} {f g : EF} {pos apos ppos : Pos} {x : Str}
theorem sll {n : Nat} (h : n < 16777216) : n < sizeLine := by rw [sizeLine_eq]; exact h
/-- the slot owns a list -/
def ownAt (ρ : EnvD) (i : Nat) : Option (List PyData) := match ρ[i]? with
  | some (some (.own ds)) => some ds
  | _ => none
theorem ownAt_some {ρ : EnvD} {i : Nat} {ds : List PyData} (h : ownAt ρ i = some ds) : ρ[i]? = some (some (.own ds)) := by
  unfold ownAt at h
  split at h
  · next e => cases h; exact e
  · cases h
theorem SI.ownList {C : Cf} {M0 : MS} {H0 : Hp} {M : MS} {ρ : EnvD} {τ : Tape} {σ : St} {H : Hp} (S : SI C M0 H0 M ρ τ σ H) {i : Nat} {ds : List PyData} (e : ownAt ρ i = some ds) : ∃ a xs, σ[i]? = some (some (.ref a)) ∧ H a = some (.lst xs) ∧ RpAll M H xs ds ∧ a ≠ C.T := by
  obtain ⟨v, ev, q⟩ := S.sl i _ (ownAt_some e)
  obtain ⟨a', e1, _, _, nT⟩ := q.own_ne rfl S.t0 S.trk0
  obtain ⟨a, xs, rfl, ea, m, n0, r⟩ := q
  cases e1
  exact ⟨_, xs, ev, ea, r, nT⟩
/-- x.append(e) -/
def appS (i : Nat) (f : EF) : SF := fun ρ τ => (ownAt ρ i).bind fun _ => (f ρ τ).bind fun r => (ownAt r.2.1 i).bind fun ds => match r.1 with
  | .dat d => if ds.length < 16777216 then some (.nx (r.2.1.set i (some (.own (ds ++ [d])))) r.2.2) else none
  | _ => none
theorem app_td {i : Nat} {σ : St} {H : Hp} {D : Ends} (h : tDS X (appS i f) D σ H) : tDrop (tBM X.K "list" rAppend (tVar i) (tCons (tD X f) tNil)) D σ H := by
  obtain ⟨T, M0, H0, M, ρ, τ, o, S, ef, w⟩ := h
  unfold appS at ef
  cases e0 : ownAt ρ i with
  | none => rw [e0] at ef; cases ef
  | some ds0 =>
    rw [e0] at ef
    simp only [Option.bind_some] at ef
    cases e1 : f ρ τ with
    | none => rw [e1] at ef; cases ef
    | some r =>
      obtain ⟨w1, ρ1, τ1⟩ := r
      rw [e1] at ef
      simp only [Option.bind_some] at ef
      cases e2 : ownAt ρ1 i with
      | none => rw [e2] at ef; cases ef
      | some ds =>
        rw [e2] at ef
        simp only [Option.bind_some] at ef
        obtain ⟨l, xs0, ev, el, _⟩ := S.ownList e0
        refine ⟨_, ev, .inl ⟨rfl, _, SqL.of el⟩, T, M0, H0, M, ρ, τ, w1, ρ1, τ1, S, e1, fun v M1 H1 S1 x1 r1 => ?_⟩
        split at ef
        · next d =>
          split at ef
          · next hl =>
            cases ef
            obtain ⟨l', xs, ev', el', q', _⟩ := S1.ownList e2
            rw [ev] at ev'
            cases ev'
            obtain ⟨S2, L⟩ := S1.change (ownAt_some e2) ev (q'.append (.cons r1 .nil))
            exact ⟨_, xs, v, rfl, rfl, el', by rw [q'.length]; exact sll hl, w σ M1 _ S2 ((x1.later S.mt).trans L)⟩
          · cases ef
        · cases ef
theorem ds_app {st : Stmt} {i : Nat} (h : PS X st (tDrop (tBM X.K "list" rAppend (tVar i) (tCons (tD X f) tNil)))) : DS X st (appS i f) := h.mono fun _ _ _ q => app_td q
/-- x[k] = e, x owned -/
def setIxS (i : Nat) (f g : EF) : SF := fun ρ τ => (f ρ τ).bind fun r => (ownAt r.2.1 i).bind fun _ => (g r.2.1 r.2.2).bind fun q => (ownAt q.2.1 i).bind fun ds => match r.1, q.1 with
  | .dat d, .dat (.int k) => (ixN ds.length k).map fun n => .nx (q.2.1.set i (some (.own (ds.set n d)))) q.2.2
  | _, _ => none
theorem setIx_td {i : Nat} {σ : St} {H : Hp} {D : Ends} (h : tDS X (setIxS i f g) D σ H) : tAsg (tD X f) (gSub (tVar i) (tDB X g) rSetL) D σ H := by
  obtain ⟨T, M0, H0, M, ρ, τ, o, S, ef, w⟩ := h
  unfold setIxS at ef
  cases e1 : f ρ τ with
  | none => rw [e1] at ef; cases ef
  | some r =>
    obtain ⟨w1, ρ1, τ1⟩ := r
    rw [e1] at ef
    simp only [Option.bind_some] at ef
    cases e0 : ownAt ρ1 i with
    | none => rw [e0] at ef; cases ef
    | some ds0 =>
      rw [e0] at ef
      simp only [Option.bind_some] at ef
      cases e2 : g ρ1 τ1 with
      | none => rw [e2] at ef; cases ef
      | some q =>
        obtain ⟨w2, ρ2, τ2⟩ := q
        rw [e2] at ef
        simp only [Option.bind_some] at ef
        cases e3 : ownAt ρ2 i with
        | none => rw [e3] at ef; cases ef
        | some ds =>
          rw [e3] at ef
          simp only [Option.bind_some] at ef
          refine ⟨T, M0, H0, M, ρ, τ, w1, ρ1, τ1, S, e1, fun v1 M1 H1 S1 x1 r1 => ?_⟩
          obtain ⟨l, xs0, ev, el, _⟩ := S1.ownList e0
          refine ⟨_, ev, T, M0, H0, M1, ρ1, τ1, w2, ρ2, τ2, S1, e2, fun v2 M2 H2 S2 x2 r2 => ?_⟩
          obtain ⟨l', xs, ev', el', q', _⟩ := S2.ownList e3
          rw [ev] at ev'
          cases ev'
          split at ef
          · next d k =>
            cases e4 : ixN ds.length k with
            | none => rw [e4] at ef; cases ef
            | some n =>
              rw [e4] at ef
              cases ef
              cases (show Rp M2 H2 v2 _ from r2)
              obtain ⟨S3, L⟩ := S2.change (ownAt_some e3) ev (q'.set (r1.later (x2.later S1.mt)) n)
              exact ⟨_, xs, k, n, rfl, rfl, el', by rw [q'.length]; exact e4, w σ M2 _ S3 (((x1.trans x2).later S.mt).trans L)⟩
          · cases ef
theorem ds_setIx {st : Stmt} {i : Nat} (h : PS X st (tAsg (tD X f) (gSub (tVar i) (tDB X g) rSetL))) : DS X st (setIxS i f g) := h.mono fun _ _ _ q => setIx_td q
/-- tape[k] = e -/
def tapeS (i : Nat) (k : Int) (f : EF) : SF := fun ρ τ => (f ρ τ).bind fun r => match r.2.1[i]?, r.1 with
  | some (some (.val .tape)), .dat (.int n) => if k = 1 then some (.nx r.2.1 ⟨r.2.2.cells, n, r.2.2.cur⟩) else if k = 2 then some (.nx r.2.1 ⟨r.2.2.cells, r.2.2.pos, n⟩) else none
  | _, _ => none
theorem SI.tapeSet {C : Cf} {M0 : MS} {H0 : Hp} {M : MS} {ρ : EnvD} {τ : Tape} {σ : St} {H : Hp} (S : SI C M0 H0 M ρ τ σ H) (n m : Int) {p : Addr} (h1 : H C.T = some (.lst [.ref p, .int τ.pos, .int τ.cur])) (h2 : H p = some (.lst (τ.cells.map V.int))) (h3 : ¬ M p) :
    SI C M0 H0 M ρ ⟨τ.cells, n, m⟩ σ (upd H C.T (.lst [.ref p, .int n, .int m])) ∧ Later M H M (upd H C.T (.lst [.ref p, .int n, .int m])) := by
  have kp : ∀ b o, H b = some o → b ≠ C.T → (upd H C.T (.lst [.ref p, .int n, .int m])) b = some o := fun b o e ne => by rw [upd_ne ne]; exact e
  refine ⟨S.called ⟨S.mt, p, upd_same, ?_, h3⟩ kp, ⟨fun b o e nm => kp b o e fun z => nm (by rw [z]; exact S.mt), fun _ q => .inl q⟩⟩
  exact kp p _ h2 fun z => h3 (by rw [z]; exact S.mt)
theorem tape_td {i : Nat} {k : Int} {σ : St} {H : Hp} {D : Ends} (h : tDS X (tapeS i k f) D σ H) : tAsg (tD X f) (gSub (tVar i) (tC (.int k)) rSetL) D σ H := by
  obtain ⟨T, M0, H0, M, ρ, τ, o, S, ef, w⟩ := h
  unfold tapeS at ef
  cases e1 : f ρ τ with
  | none => rw [e1] at ef; cases ef
  | some r =>
    obtain ⟨w1, ρ1, τ1⟩ := r
    rw [e1] at ef
    simp only [Option.bind_some] at ef
    refine ⟨T, M0, H0, M, ρ, τ, w1, ρ1, τ1, S, e1, fun v1 M1 H1 S1 x1 r1 => ?_⟩
    split at ef
    · next n e0 =>
      obtain ⟨v, ev, q⟩ := S1.sl i _ e0
      have q : v = .ref T := q
      subst q
      obtain ⟨_, p, h1, h2, h3⟩ := S1.tp
      cases (show Rp M1 H1 v1 _ from r1)
      refine ⟨_, ev, ?_⟩
      split at ef
      · next ek =>
        cases ef
        subst ek
        obtain ⟨S2, L⟩ := S1.tapeSet n τ1.cur h1 h2 h3
        exact ⟨T, _, 1, 1, rfl, rfl, h1, rfl, w σ M1 _ S2 ((x1.later S.mt).trans L)⟩
      · split at ef
        · next ek =>
          cases ef
          subst ek
          obtain ⟨S2, L⟩ := S1.tapeSet τ1.pos n h1 h2 h3
          exact ⟨T, _, 2, 2, rfl, rfl, h1, rfl, w σ M1 _ S2 ((x1.later S.mt).trans L)⟩
        · cases ef
    · cases ef
theorem ds_tape {st : Stmt} {i : Nat} {k : Int} (h : PS X st (tAsg (tD X f) (gSub (tVar i) (tC (.int k)) rSetL))) : DS X st (tapeS i k f) := h.mono fun _ _ _ q => tape_td q
/-- x.pop(k) -/
def popAtS (i : Nat) (f : EF) : SF := fun ρ τ => (ownAt ρ i).bind fun _ => (f ρ τ).bind fun r => (ownAt r.2.1 i).bind fun ds => match r.1 with
  | .dat (.int k) => if 0 ≤ k ∧ k < ds.length ∧ ds.length < 16777216 then some (.nx (r.2.1.set i (some (.own (ds.eraseIdx k.toNat)))) r.2.2) else none
  | _ => none
theorem seqIx_nat {k : Int} {n : Nat} (h0 : 0 ≤ k) (h : k < n) : seqIndex? k n = some k.toNat := by
  have e : ixN n k = some k.toNat := by
    unfold ixN
    rw [if_pos h0, if_pos h]
  exact (ixN_seq e).1
theorem popAt_td {i : Nat} {σ : St} {H : Hp} {D : Ends} (h : tDS X (popAtS i f) D σ H) : tDrop (tBM X.K "list" rPopAt (tVar i) (tCons (tD X f) tNil)) D σ H := by
  obtain ⟨T, M0, H0, M, ρ, τ, o, S, ef, w⟩ := h
  unfold popAtS at ef
  cases e0 : ownAt ρ i with
  | none => rw [e0] at ef; cases ef
  | some ds0 =>
    rw [e0] at ef
    simp only [Option.bind_some] at ef
    cases e1 : f ρ τ with
    | none => rw [e1] at ef; cases ef
    | some r =>
      obtain ⟨w1, ρ1, τ1⟩ := r
      rw [e1] at ef
      simp only [Option.bind_some] at ef
      cases e2 : ownAt ρ1 i with
      | none => rw [e2] at ef; cases ef
      | some ds =>
        rw [e2] at ef
        simp only [Option.bind_some] at ef
        obtain ⟨l, xs0, ev, el, _⟩ := S.ownList e0
        refine ⟨_, ev, .inl ⟨rfl, _, SqL.of el⟩, T, M0, H0, M, ρ, τ, w1, ρ1, τ1, S, e1, fun v M1 H1 S1 x1 r1 => ?_⟩
        split at ef
        · next k =>
          split at ef
          · next hl =>
            cases ef
            cases (show Rp M1 H1 v _ from r1)
            obtain ⟨l', xs, ev', el', q', _⟩ := S1.ownList e2
            rw [ev] at ev'
            cases ev'
            obtain ⟨S2, L⟩ := S1.change (ownAt_some e2) ev (q'.eraseIdx k.toNat)
            have hxl : k.toNat < xs.length := by rw [q'.length]; omega
            exact ⟨_, xs, k, k.toNat, _, rfl, rfl, el', by omega, by omega, by rw [q'.length]; exact seqIx_nat hl.1 hl.2.1, List.getElem?_eq_getElem hxl, w σ M1 _ S2 ((x1.later S.mt).trans L)⟩
          · cases ef
        · cases ef
theorem ds_popAt {st : Stmt} {i : Nat} (h : PS X st (tDrop (tBM X.K "list" rPopAt (tVar i) (tCons (tD X f) tNil)))) : DS X st (popAtS i f) := h.mono fun _ _ _ q => popAt_td q
/-- y = x.pop() -/
def popS (j i : Nat) : SF := fun ρ τ => (ownAt ρ i).bind fun ds => (ds[ds.length - 1]?).map fun d => .nx ((ρ.set i (some (.own ds.dropLast))).set j (some (.val (.dat d)))) τ
theorem RpAll.dropLast {M : MS} {H : Hp} {ds : List PyData} {vs : List V} (h : RpAll M H vs ds) : RpAll M H vs.dropLast ds.dropLast := by
  rw [List.dropLast_eq_take, List.dropLast_eq_take, h.length]
  exact h.take _
theorem pop_td {i j : Nat} {σ : St} {H : Hp} {D : Ends} (h : tDS X (popS j i) D σ H) : tAsg (tBM0 X.K "list" rPop (tVar i)) (gName j) D σ H := by
  obtain ⟨T, M0, H0, M, ρ, τ, o, S, ef, w⟩ := h
  unfold popS at ef
  cases e0 : ownAt ρ i with
  | none => rw [e0] at ef; cases ef
  | some ds =>
    rw [e0] at ef
    simp only [Option.bind_some] at ef
    cases e1 : ds[ds.length - 1]? with
    | none => rw [e1] at ef; cases ef
    | some d =>
      rw [e1] at ef
      cases ef
      obtain ⟨l, xs, ev, el, q, _⟩ := S.ownList e0
      obtain ⟨v, evv, rv⟩ := q.get e1
      obtain ⟨S2, L⟩ := S.change (ownAt_some e0) ev q.dropLast
      exact ⟨_, ev, .inl ⟨rfl, _, SqL.of el⟩, l, xs, v, rfl, rfl, el, by rw [q.length]; exact evv, w _ M _ (S2.putVal (Rp.later L _ _ rv)) L⟩
theorem ds_pop {st : Stmt} {i j : Nat} (h : PS X st (tAsg (tBM0 X.K "list" rPop (tVar i)) (gName j))) : DS X st (popS j i) := h.mono fun _ _ _ q => pop_td q
end

/-! ### list comprehensions -/
def wipeD (ρ : EnvD) : List Nat → EnvD
  | [] => ρ
  | v :: vs => (wipeD ρ vs).set v none
def keepVal : Option (Option Sl) → Option Sl
  | some (some (.val w)) => some (.val w)
  | _ => none
def mergeD (ρ ρb : EnvD) : List Nat → EnvD
  | [] => ρb
  | v :: vs => (mergeD ρ ρb vs).set v (keepVal ρ[v]?)
theorem wipeD_length (ρ : EnvD) : ∀ vs, (wipeD ρ vs).length = ρ.length
  | [] => rfl
  | v :: vs => by unfold wipeD; rw [List.length_set, wipeD_length ρ vs]
theorem mergeD_length (ρ ρb : EnvD) : ∀ vs, (mergeD ρ ρb vs).length = ρb.length
  | [] => rfl
  | v :: vs => by unfold mergeD; rw [List.length_set, mergeD_length ρ ρb vs]
theorem wipeD_some {ρ : EnvD} {i : Nat} {s : Sl} : ∀ {vs : List Nat}, (wipeD ρ vs)[i]? = some (some s) → ρ[i]? = some (some s) ∧ i ∉ vs
  | [], h => ⟨h, by simp⟩
  | v :: vs, h => by
    unfold wipeD at h
    rcases get_set h with ⟨_, z, _⟩ | ⟨ne, z⟩
    · cases z
    · obtain ⟨h1, h2⟩ := wipeD_some z
      exact ⟨h1, fun m => (List.mem_cons.mp m).elim ne h2⟩
theorem keepVal_some {x : Option (Option Sl)} {s : Sl} (h : keepVal x = some s) : ∃ w, s = .val w ∧ x = some (some (.val w)) := by
  unfold keepVal at h
  split at h
  · cases h; exact ⟨_, rfl, rfl⟩
  · cases h
theorem mergeD_some {ρ ρb : EnvD} {i : Nat} {s : Sl} : ∀ {vs : List Nat}, (mergeD ρ ρb vs)[i]? = some (some s) → (∃ w, s = .val w ∧ ρ[i]? = some (some (.val w))) ∨ (i ∉ vs ∧ ρb[i]? = some (some s))
  | [], h => .inr ⟨by simp, h⟩
  | v :: vs, h => by
    unfold mergeD at h
    rcases get_set h with ⟨rfl, z, _⟩ | ⟨ne, z⟩
    · exact .inl (keepVal_some z)
    · rcases mergeD_some z with q | ⟨q1, q2⟩
      · exact .inl q
      · exact .inr ⟨fun m => (List.mem_cons.mp m).elim ne q1, q2⟩
theorem wipe_foot {σ σ2 : St} : ∀ {vs : List Nat}, Foot vs (wipe σ vs) σ2 → wipe σ2 vs = wipe σ vs := fun {vs} f => by
  refine List.ext_getElem? fun j => ?_
  by_cases hj : j ∈ vs
  · have key : ∀ (s : St) (ws : List Nat), j ∈ ws → (wipe s ws)[j]? = if j < s.length then some none else none := by
      intro s ws
      induction ws with
      | nil => intro h; cases h
      | cons v vs ih =>
        intro h
        unfold wipe
        by_cases e : v = j
        · subst e
          by_cases hl : v < s.length
          · rw [if_pos hl, List.getElem?_set_self (by rw [wipe_length]; exact hl)]
          · rw [if_neg hl, List.getElem?_eq_none (by rw [List.length_set, wipe_length]; omega)]
        · rw [List.getElem?_set_ne e]
          exact ih ((List.mem_cons.mp h).resolve_left fun z => e z.symm)
    rw [key _ _ hj, key _ _ hj, f.len, wipe_length]
  · rw [wipe_out hj, f.out j hj]
theorem Foot.mono {is js : List Nat} {a b : St} (h : Foot is a b) (s : ∀ j ∈ is, j ∈ js) : Foot js a b := ⟨h.len, fun j n => h.out j fun z => n (s j z)⟩
theorem SI.wipe {C : Cf} {M0 : MS} {H0 : Hp} {M : MS} {ρ : EnvD} {τ : Tape} {σ : St} {H : Hp} (S : SI C M0 H0 M ρ τ σ H) (vs : List Nat) : SI C M0 H0 M (wipeD ρ vs) τ (L2.wipe σ vs) H :=
  S.weak (by rw [wipeD_length, wipe_length]; exact S.len) fun i s e => by
    obtain ⟨h1, h2⟩ := wipeD_some e
    exact ⟨h1, wipe_out h2⟩
/-- back from a block -/
theorem SI.merge {C : Cf} {M0 : MS} {H0 : Hp} {M M1 : MS} {ρ ρb : EnvD} {τ τ1 : Tape} {σ : St} {H H1 : Hp} {vs : List Nat} (S : SI C M0 H0 M ρ τ σ H) (S1 : SI C M0 H0 M1 ρb τ1 (L2.wipe σ vs) H1) (L : Later M H M1 H1) : SI C M0 H0 M1 (mergeD ρ ρb vs) τ1 σ H1 := by
  have sl1 : ∀ (i : Nat) v, (L2.wipe σ vs)[i]? = some (some v) → σ[i]? = some (some v) := fun i v e => (wipe_some e).1
  refine ⟨by rw [mergeD_length, S1.len, wipe_length], S1.tp, S1.m0, S1.t0, S1.trk, S1.trk0, S1.fr, fun i s e => ?_, fun i j s t v e1 e2 o1 o2 z1 z2 => ?_⟩
  · rcases mergeD_some e with ⟨w, rfl, e'⟩ | ⟨_, e'⟩
    · obtain ⟨v, ev, q⟩ := S.sl i _ e'
      exact ⟨v, ev, Rw.later L q⟩
    · obtain ⟨v, ev, q⟩ := S1.sl i s e'
      exact ⟨v, sl1 i v ev, q⟩
  · rcases mergeD_some e1 with ⟨w, rfl, _⟩ | ⟨n1, e1'⟩
    · cases o1
    · rcases mergeD_some e2 with ⟨w, rfl, _⟩ | ⟨n2, e2'⟩
      · cases o2
      · exact S1.nd i j s t v e1' e2' o1 o2 (by rw [wipe_out n1]; exact z1) (by rw [wipe_out n2]; exact z2)
theorem _root_.L2.PTs.mono {X : Cx} {e : List Expr} {t t' : TT} (h : PTs X e t) (i : ∀ σ H Q, t' σ H Q → t σ H Q) : PTs X e t' := ⟨fun pins s σ H Q I q => h.run pins s σ H Q I (i σ H Q q)⟩
def DTs (X : Cx) (es : List Expr) (f : BF) : Prop := PTs X es (tDT X f)
def yesB : BF := fun ρ τ => some (true, ρ, τ)
theorem dts_nil {X : Cx} : DTs X [] yesB := pts_nil.mono fun σ H Q ⟨T, M0, H0, M, ρ, τ, b, ρ', τ', S, ef, k⟩ => by
  cases ef
  exact k M H S (Ex.refl ..)
theorem dts_one {X : Cx} {c : Expr} {p : BF} (h : DT X c p) : DTs X [c] p := pts_one h
def lcL (g : GF) (t : BF) (f : EF) (vs : List Nat) : List PyData → EnvD → Tape → Option (List PyData × EnvD × Tape)
  | [], ρ, τ => some ([], ρ, τ)
  | d :: ds, ρ, τ => (g d ρ).bind fun ρ1 => (t ρ1 τ).bind fun r => if r.1 = true then (f r.2.1 r.2.2).bind fun q => match q.1 with
        | .dat x => (lcL g t f vs ds (wipeD q.2.1 vs) q.2.2).map fun s => (x :: s.1, s.2.1, s.2.2)
        | _ => none
      else lcL g t f vs ds (wipeD r.2.1 vs) r.2.2
/-- what is locked and of no slot counts as the entry's -/
theorem SI.pin {C : Cf} {M0 : MS} {H0 : Hp} {M : MS} {ρ : EnvD} {τ : Tape} {σ : St} {H : Hp} {D : Addr} {o : HO} (S : SI C M0 H0 M ρ τ σ H) (m : M D) (e : H D = some o) (no : ∀ (i : Nat) s, ρ[i]? = some (some s) → s.isOwn = true → σ[i]? ≠ some (some (.ref D))) :
    SI C (fun b => M0 b ∨ b = D) (upd H0 D o) M ρ τ σ H := by
  refine ⟨S.len, S.tp, fun b mb => mb.elim (S.m0 b) fun z => by rw [z]; exact m, .inl S.t0, S.trk, fun b mb z => ?_, fun b u eb nT => ?_, fun i s es => ?_, S.nd⟩
  · by_cases q : b = D
    · rw [q, upd_same] at z; cases z
    · rw [upd_ne q] at z; exact S.trk0 b (mb.resolve_right q) z
  · by_cases q : b = D
    · rw [q, upd_same] at eb; cases eb; rw [q]; exact e
    · rw [upd_ne q] at eb; exact S.fr b u eb nT
  · obtain ⟨v, ev, q⟩ := S.sl i s es
    refine ⟨v, ev, ?_⟩
    cases s with
    | val w => exact q
    | own ds =>
      obtain ⟨a, xs, rfl, h1, h2, h3, h4⟩ := q
      exact ⟨a, xs, rfl, h1, h2, by rw [upd_ne fun z => no i _ es rfl (by rw [ev, z])]; exact h3, h4⟩
    | ownD kvs =>
      obtain ⟨a, rfl, h2, h3, h4⟩ := q
      exact ⟨a, rfl, h2, by rw [upd_ne fun z => no i _ es rfl (by rw [ev, z])]; exact h3, h4⟩
theorem SI.unpin {C : Cf} {M0 : MS} {H0 : Hp} {M : MS} {ρ : EnvD} {τ : Tape} {σ : St} {H : Hp} {D : Addr} {o : HO} (S : SI C (fun b => M0 b ∨ b = D) (upd H0 D o) M ρ τ σ H) (n0 : H0 D = none) (t0 : M0 C.T) (trk0 : ∀ b, M0 b → H0 b ≠ none) :
    SI C M0 H0 M ρ τ σ H ∧ ∀ (i : Nat) s, ρ[i]? = some (some s) → s.isOwn = true → σ[i]? ≠ some (some (.ref D)) := by
  have ne : ∀ {a : Addr}, upd H0 D o a = none → a ≠ D ∧ H0 a = none := fun {a} z => by
    by_cases q : a = D
    · rw [q, upd_same] at z; cases z
    · rw [upd_ne q] at z; exact ⟨q, z⟩
  refine ⟨⟨S.len, S.tp, fun b mb => S.m0 b (.inl mb), t0, S.trk, trk0, fun b u eb nT => ?_, fun i s es => ?_, S.nd⟩, fun i s es os z => ?_⟩
  · exact S.fr b u (by rw [upd_ne (fun q => by rw [q, n0] at eb; cases eb)]; exact eb) nT
  · obtain ⟨v, ev, q⟩ := S.sl i s es
    refine ⟨v, ev, ?_⟩
    cases s with
    | val w => exact q
    | own ds =>
      obtain ⟨a, xs, rfl, h1, h2, h3, h4⟩ := q
      exact ⟨a, xs, rfl, h1, h2, (ne h3).2, h4⟩
    | ownD kvs =>
      obtain ⟨a, rfl, h2, h3, h4⟩ := q
      exact ⟨a, rfl, h2, (ne h3).2, h4⟩
  · obtain ⟨v, ev, q⟩ := S.sl i s es
    obtain ⟨a, ea, _, h3, _⟩ := q.own_ne os S.t0 S.trk0
    rw [ev] at z
    have z : v = .ref D := Option.some.inj (Option.some.inj z)
    rw [z] at ea
    cases ea
    exact (ne h3).1 rfl
/-- the state within a comprehension: D is the list that is filled -/
structure Lc (C : Cf) (M0 : MS) (H0 : Hp) (D : Addr) (M : MS) (ρ : EnvD) (τ : Tape) (σ : St) (H : Hp) (acc : List PyData) : Prop where
  it : ∃ xs, H D = some (.lst xs) ∧ RpAll M H xs acc ∧ SI C (fun b => M0 b ∨ b = D) (upd H0 D (.lst xs)) M ρ τ σ H
structure ExD (T D : Addr) (M : MS) (H : Hp) (M' : MS) (H' : Hp) : Prop where
  keep : ∀ b o, H b = some o → b ≠ T → b ≠ D → H' b = some o
  sub : ∀ b, M' b → M b
theorem ExD.refl (T D : Addr) (M : MS) (H : Hp) : ExD T D M H M H := ⟨fun _ _ e _ _ => e, fun _ m => m⟩
theorem ExD.trans {T D : Addr} {M1 M2 M3 : MS} {H1 H2 H3 : Hp} (a : ExD T D M1 H1 M2 H2) (b : ExD T D M2 H2 M3 H3) : ExD T D M1 H1 M3 H3 := ⟨fun c o e n n' => b.keep c o (a.keep c o e n n') n n', fun c m => a.sub c (b.sub c m)⟩
theorem Ex.d {T D : Addr} {M1 M2 : MS} {H1 H2 : Hp} (a : Ex T M1 H1 M2 H2) : ExD T D M1 H1 M2 H2 := ⟨fun c o e n _ => a.keep c o e n, a.sub⟩
theorem ExD.later {T D : Addr} {M1 M2 : MS} {H1 H2 : Hp} (a : ExD T D M1 H1 M2 H2) (t : M1 T) (d : M1 D) : Later M1 H1 M2 H2 :=
  ⟨fun b o e n => a.keep b o e (fun z => n (by rw [z]; exact t)) (fun z => n (by rw [z]; exact d)), fun b m => .inl (a.sub b m)⟩
section
variable {X : Cx} {T : Addr} {M0 : MS} {H0 : Hp} {D : Addr} {σ : St} {vs is : List Nat} {g : GF} {t : BF} {f : EF} {bb : Bool}
theorem Lc.md {C : Cf} {M : MS} {ρ : EnvD} {τ : Tape} {σ : St} {H : Hp} {acc : List PyData} (l : Lc C M0 H0 D M ρ τ σ H acc) : M D := let ⟨_, _, _, S⟩ := l.it; S.m0 D (.inr rfl)
theorem Lc.mt {C : Cf} {M : MS} {ρ : EnvD} {τ : Tape} {σ : St} {H : Hp} {acc : List PyData} (l : Lc C M0 H0 D M ρ τ σ H acc) : M C.T := let ⟨_, _, _, S⟩ := l.it; S.mt
/-- one more item -/
theorem Lc.push {C : Cf} {M : MS} {ρ : EnvD} {τ : Tape} {σ : St} {H : Hp} {acc : List PyData} {v : V} {d : PyData} (n0 : H0 D = none) (t0 : M0 C.T) (trk0 : ∀ b, M0 b → H0 b ≠ none) (l : Lc C M0 H0 D M ρ τ σ H acc) (r : Rp M H v d) :
    ∃ xs, H D = some (.lst xs) ∧ xs.length = acc.length ∧ Lc C M0 H0 D M ρ τ σ (upd H D (.lst (xs ++ [v]))) (acc ++ [d]) ∧ ExD C.T D M H M (upd H D (.lst (xs ++ [v]))) := by
  obtain ⟨xs, e, q, S⟩ := l.it
  obtain ⟨S1, no⟩ := S.unpin n0 t0 trk0
  have m : M D := S.m0 D (.inr rfl)
  have nT : D ≠ C.T := fun z => trk0 _ t0 (by rw [← z]; exact n0)
  obtain ⟨S2, L⟩ := S1.poke (o := .lst (xs ++ [v])) m nT n0 no
  have q2 := RpAll.later L _ _ (q.append (.cons r .nil))
  exact ⟨xs, e, q.length, ⟨_, upd_same, q2, S2.pin m upd_same no⟩, fun b o eb _ nD => by rw [upd_ne nD]; exact eb, fun _ m => m⟩
theorem lc_loop {J : It} {items : List PyData} {Ms : MS} {ρs ρf : EnvD} {τs τf : Tape} {Hs : Hp} {acc0 outs : List PyData} {E : Hp → Prop} (n0 : H0 D = none) (t0 : M0 T) (trk0 : ∀ b, M0 b → H0 b ≠ none) (his : ∀ j ∈ is, j ∈ vs)
    (it : ItD bb J Ms Hs items) (l0 : Lc (cf X T) M0 H0 D Ms ρs τs (wipe σ vs) Hs acc0) (ef : lcL g t f vs items ρs τs = some (outs, ρf, τf)) (hl : acc0.length + outs.length ≤ 16777216)
    (fin : ∀ M' H', Lc (cf X T) M0 H0 D M' ρf τf (wipe σ vs) H' (acc0 ++ outs) → ExD T D Ms Hs M' H' → E H') :
    ∃ W : Nat → Nat → Hp → Prop, (∃ m, W 0 m Hs) ∧ ∀ i m H, W i m H → (J.stop i H ∧ E H) ∨ (J.go i H ∧ ∃ Nx : Hp → Prop, (∀ H', Nx H' → ∃ m', m' < m ∧ W (i + 1) m' H') ∧ ∀ x H', J.yld i H x H' →
      tDG X bb is g x (wipe σ vs) H' fun σ2 H2 => wipe σ2 vs = wipe σ vs ∧ tDT X t σ2 H2 fun b H3 =>
        if b = true then tD X f σ2 H3 fun y H4 => ∃ acc, H4 D = some (.lst acc) ∧ acc.length < sizeLine ∧ Nx (upd H4 D (.lst (acc ++ [y]))) else Nx H3) := by
  refine ⟨fun i m H => m = items.length - i ∧ i ≤ items.length ∧ ∃ M ρ τ acc rest, Lc (cf X T) M0 H0 D M ρ τ (wipe σ vs) H acc ∧ ExD T D Ms Hs M H ∧ lcL g t f vs (items.drop i) ρ τ = some (rest, ρf, τf) ∧ acc ++ rest = acc0 ++ outs,
    ⟨items.length, by simp, Nat.zero_le _, Ms, ρs, τs, acc0, outs, l0, ExD.refl .., by rw [List.drop_zero]; exact ef, rfl⟩, ?_⟩
  have nDT : D ≠ T := fun z => trk0 _ t0 (by rw [← z]; exact n0)
  rintro i m H ⟨rfl, hi, M, ρ, τ, acc, rest, l, x0, e2, ea⟩
  have LL := x0.later l0.mt l0.md
  by_cases hlt : i < items.length
  · rw [List.drop_eq_getElem_cons hlt] at e2
    obtain ⟨xs, eD, q, S⟩ := l.it
    obtain ⟨go, yl⟩ := it.go M H LL S.trk i items[i] (List.getElem?_eq_getElem hlt)
    refine .inr ⟨go, fun H' => i + 1 ≤ items.length ∧ ∃ M ρ τ acc rest, Lc (cf X T) M0 H0 D M ρ τ (wipe σ vs) H' acc ∧ ExD T D Ms Hs M H' ∧ lcL g t f vs (items.drop (i + 1)) ρ τ = some (rest, ρf, τf) ∧ acc ++ rest = acc0 ++ outs,
      fun H' q => ⟨items.length - (i + 1), by omega, rfl, q⟩, fun x H3 y => ?_⟩
    obtain ⟨gr, rx⟩ := yl x H3 y
    unfold lcL at e2
    cases e3 : g items[i] ρ with
    | none => rw [e3] at e2; cases e2
    | some ρ3 =>
      rw [e3] at e2
      simp only [Option.bind_some] at e2
      refine ⟨T, _, _, M, ρ, τ, items[i], ρ3, S.grow gr, rx, e3, fun σ2 S2 ft => ?_⟩
      have hw : wipe σ2 vs = wipe σ vs := wipe_foot (ft.mono his)
      refine ⟨hw, ?_⟩
      cases e4 : t ρ3 τ with
      | none => rw [e4] at e2; cases e2
      | some r4 =>
        obtain ⟨b, ρ4, τ4⟩ := r4
        rw [e4] at e2
        simp only [Option.bind_some] at e2
        refine ⟨T, _, _, M, ρ3, τ, b, ρ4, τ4, S2, e4, fun M4 H4 S4 x4 => ?_⟩
        have D4 : H4 D = some (.lst xs) := S4.fr D _ upd_same nDT
        have q4 : RpAll M4 H4 xs acc := RpAll.later (gr.later.trans (x4.later S.mt)) _ _ q
        have xx4 : ExD T D Ms Hs M4 H4 := (x0.trans (gr.ex (T := T)).d).trans x4.d
        cases b with
        | false =>
          rw [if_neg Bool.false_ne_true] at e2
          refine iteF ⟨hlt, M4, _, τ4, acc, rest, ?_, xx4, e2, ea⟩
          rw [← hw]
          exact ⟨xs, D4, q4, S4.wipe vs⟩
        | true =>
          rw [if_pos rfl] at e2
          cases e5 : f ρ4 τ4 with
          | none => rw [e5] at e2; cases e2
          | some r5 =>
            obtain ⟨w5, ρ5, τ5⟩ := r5
            rw [e5] at e2
            simp only [Option.bind_some] at e2
            refine iteT ⟨T, _, _, M4, ρ4, τ4, w5, ρ5, τ5, S4, e5, fun v M5 H5 S5 x5 r5 => ?_⟩
            split at e2
            · next d =>
              cases e6 : lcL g t f vs (items.drop (i + 1)) (wipeD ρ5 vs) τ5 with
              | none => rw [e6] at e2; cases e2
              | some r6 =>
                obtain ⟨os, ρ6, τ6⟩ := r6
                rw [e6] at e2
                have e2 : (d :: os, ρ6, τ6) = (rest, ρf, τf) := Option.some.inj e2
                cases e2
                have D5 : H5 D = some (.lst xs) := S5.fr D _ upd_same nDT
                have q5 : RpAll M5 H5 xs acc := RpAll.later (x5.later S4.mt) _ _ q4
                have l5 : Lc (cf X T) M0 H0 D M5 (wipeD ρ5 vs) τ5 (wipe σ vs) H5 acc := ⟨xs, D5, q5, by rw [← hw]; exact S5.wipe vs⟩
                obtain ⟨xs', ex', hxl, l6, x6⟩ := l5.push n0 t0 trk0 r5
                refine ⟨xs', ex', ?_, hlt, M5, _, τ5, acc ++ [d], os, l6, (xx4.trans x5.d).trans x6, e6, by rw [List.append_assoc]; exact ea⟩
                have el := congrArg List.length ea
                simp only [List.length_append, List.length_cons] at el
                exact sll (by omega)
            · cases e2
  · have ei : i = items.length := by omega
    subst ei
    rw [List.drop_length] at e2
    cases e2
    rw [List.append_nil] at ea
    subst ea
    exact .inl ⟨it.stop M H LL, fin M H l x0⟩
/-- the start: the new list -/
theorem lc_start {C : Cf} {M0 : MS} {H0 : Hp} {M1 : MS} {ρ1 : EnvD} {τ1 : Tape} {H1 : Hp} {D : Addr} (S1 : SI C M0 H0 M1 ρ1 τ1 σ H1) (nD : H1 D = none) (vs : List Nat) : Lc C M0 H0 D (fun b => M1 b ∨ b = D) (wipeD ρ1 vs) τ1 (wipe σ vs) (upd H1 D (.lst [])) [] := by
  have S2 := (S1.lock (o := .lst []) nD).wipe vs
  refine ⟨[], upd_same, .nil, S2.pin (.inr rfl) upd_same fun i s e o => ?_⟩
  obtain ⟨h1, h2⟩ := wipeD_some e
  rw [wipe_out h2]
  exact S1.own_tracked nD i s h1 o
theorem lc_later {M1 : MS} {H1 : Hp} {D : Addr} (nD : H1 D = none) : Later M1 H1 (fun b => M1 b ∨ b = D) (upd H1 D (.lst [])) := ⟨fun b o e _ => Gr.upd nD b o e, fun b m => m.imp id fun z => by rw [z]; exact nD⟩
theorem ItD.later {J : It} {M M' : MS} {H H' : Hp} {items : List PyData} (h : ItD bb J M H items) (L : Later M H M' H') : ItD bb J M' H' items := ⟨fun M2 H2 l => h.go M2 H2 (L.trans l), fun M2 H2 l => h.stop M2 H2 (L.trans l)⟩
/-- the end: back in the def -/
theorem lc_end {C : Cf} {M0 : MS} {H0 : Hp} {M M1 M' : MS} {ρ1 ρf : EnvD} {τ1 τf : Tape} {H H1 H' : Hp} {D : Addr} {outs : List PyData} (n0 : H0 D = none) (S1 : SI C M0 H0 M1 ρ1 τ1 σ H1) (x1 : Ex C.T M H M1 H1) (nD : H1 D = none) (l : Lc C M0 H0 D M' ρf τf (wipe σ vs) H' outs) (x : ExD C.T D (fun b => M1 b ∨ b = D) (upd H1 D (.lst [])) M' H') :
    FreshL C M0 H0 M H (mergeD ρ1 ρf vs) τf σ D outs M' H' := by
  obtain ⟨xs, eD, q, S⟩ := l.it
  obtain ⟨S2, no⟩ := S.unpin n0 S1.t0 S1.trk0
  have L : Later M1 H1 M' H' := (lc_later nD).trans (x.later (.inl S1.mt) (.inr rfl))
  refine ⟨S1.merge S2 L, fun b o e nT => ?_, fun b m => ?_, ?_, S.m0 D (.inr rfl), fun i s e o => ?_, xs, eD, q⟩
  · have e1 := x1.keep b o e nT
    have nb : b ≠ D := fun z => by rw [z, nD] at e1; cases e1
    exact x.keep b o (by rw [upd_ne nb]; exact e1) nT nb
  · exact (x.sub b m).imp (x1.sub b) id
  · cases e : H D with
    | none => rfl
    | some o =>
      have nT : D ≠ C.T := fun z => S1.trk0 _ S1.t0 (by rw [← z]; exact n0)
      rw [x1.keep D o e nT] at nD; cases nD
  · rcases mergeD_some e with ⟨w, rfl, _⟩ | ⟨h1, h2⟩
    · cases o
    · have := no i s h2 o
      rw [wipe_out h1] at this
      exact this
def lcN (h : FF) (g : GF) (t : BF) (f : EF) (vs : List Nat) : FF := fun ρ τ => (h ρ τ).bind fun r => (lcL g t f vs r.1 (wipeD r.2.1 vs) r.2.2).bind fun q => if q.1.length ≤ 16777216 then some (q.1, mergeD r.2.1 q.2.1 vs, q.2.2) else none
theorem lc_td {h : FF} (his : ∀ j ∈ is, j ∈ vs) {H : Hp} {Q : VK} (hh : tDN X (lcN h g t f vs) σ H Q) : tLc (tDI X bb h) (tDG X bb is g) (tDT X t) (tD X f) vs σ H Q := by
  obtain ⟨T, M0, H0, M, ρ, τ, ds, ρ', τ', S, ef, k⟩ := hh
  unfold lcN at ef
  cases e1 : h ρ τ with
  | none => rw [e1] at ef; cases ef
  | some r1 =>
    obtain ⟨items, ρ1, τ1⟩ := r1
    rw [e1] at ef
    simp only [Option.bind_some] at ef
    cases e2 : lcL g t f vs items (wipeD ρ1 vs) τ1 with
    | none => rw [e2] at ef; cases ef
    | some r2 =>
      obtain ⟨outs, ρf, τf⟩ := r2
      rw [e2] at ef
      simp only [Option.bind_some] at ef
      split at ef
      · next hl =>
        cases ef
        refine ⟨T, M0, H0, M, ρ, τ, items, ρ1, τ1, S, e1, fun J M1 H1 S1 x1 it => fun D nD => ?_⟩
        have n0 : H0 D = none := S1.fresh0 nD
        refine lc_loop (M0 := M0) (H0 := H0) n0 S1.t0 S1.trk0 his (it.later (lc_later nD)) (lc_start S1 nD vs) e2 (by simpa using hl) fun M' H' l x => ?_
        exact k D M' H' (lc_end n0 S1 x1 nD l x)
      · cases ef
/-- two for clauses -/
def lc2L (g : GF) (h1 : FF) (g1 : GF) (t1 : BF) (f : EF) (vs vs1 : List Nat) : List PyData → EnvD → Tape → Option (List PyData × EnvD × Tape)
  | [], ρ, τ => some ([], ρ, τ)
  | d :: ds, ρ, τ => (g d ρ).bind fun ρ1 => (h1 ρ1 τ).bind fun r => (lcL g1 t1 f vs1 r.1 (wipeD r.2.1 vs1) r.2.2).bind fun q => (lc2L g h1 g1 t1 f vs vs1 ds (wipeD q.2.1 vs) q.2.2).map fun s => (q.1 ++ s.1, s.2.1, s.2.2)
def lc2N (h : FF) (g : GF) (h1 : FF) (g1 : GF) (t1 : BF) (f : EF) (vs vs1 : List Nat) : FF := fun ρ τ => (h ρ τ).bind fun r => (lc2L g h1 g1 t1 f vs vs1 r.1 (wipeD r.2.1 vs) r.2.2).bind fun q => if q.1.length ≤ 16777216 then some (q.1, mergeD r.2.1 q.2.1 vs, q.2.2) else none
theorem wipe_wipe {σ2 σ : St} {vs vs1 : List Nat} (hw : wipe σ2 vs = wipe σ vs) (hv : ∀ i ∈ vs1, i ∈ vs) : wipe (wipe σ2 vs1) vs = wipe σ vs := by
  rw [← hw]
  refine List.ext_getElem? fun j => ?_
  by_cases hj : j ∈ vs
  · have key : ∀ (s : St) (ws : List Nat), j ∈ ws → (wipe s ws)[j]? = if j < s.length then some none else none := by
      intro s ws
      induction ws with
      | nil => intro h; cases h
      | cons v vs ih =>
        intro h
        unfold wipe
        by_cases e : v = j
        · subst e
          by_cases hl : v < s.length
          · rw [if_pos hl, List.getElem?_set_self (by rw [wipe_length]; exact hl)]
          · rw [if_neg hl, List.getElem?_eq_none (by rw [List.length_set, wipe_length]; omega)]
        · rw [List.getElem?_set_ne e]
          exact ih ((List.mem_cons.mp h).resolve_left fun z => e z.symm)
    rw [key _ _ hj, key _ _ hj, wipe_length]
  · rw [wipe_out hj, wipe_out hj, wipe_out fun z => hj (hv j z)]
theorem lc2_td {b2 : Bool} {h h1 : FF} {g1 : GF} {t1 : BF} {vs1 is1 : List Nat} (his : ∀ j ∈ is, j ∈ vs) (his1 : ∀ j ∈ is1, j ∈ vs1) (hv : ∀ i ∈ vs1, i ∈ vs) {H : Hp} {Q : VK} (hh : tDN X (lc2N h g h1 g1 t1 f vs vs1) σ H Q) :
    tLc2 (tDI X bb h) (tDG X bb is g) (tDT X yesB) (tDI X b2 h1) (tDG X b2 is1 g1) (tDT X t1) (tD X f) vs vs1 σ H Q := by
  obtain ⟨T, M0, H0, M, ρ, τ, ds, ρ', τ', S, ef, k⟩ := hh
  unfold lc2N at ef
  cases e1 : h ρ τ with
  | none => rw [e1] at ef; cases ef
  | some r1 =>
    obtain ⟨items, ρ1, τ1⟩ := r1
    rw [e1] at ef
    simp only [Option.bind_some] at ef
    cases e2 : lc2L g h1 g1 t1 f vs vs1 items (wipeD ρ1 vs) τ1 with
    | none => rw [e2] at ef; cases ef
    | some r2 =>
      obtain ⟨outs, ρf, τf⟩ := r2
      rw [e2] at ef
      simp only [Option.bind_some] at ef
      split at ef
      · next hl =>
        cases ef
        refine ⟨T, M0, H0, M, ρ, τ, items, ρ1, τ1, S, e1, fun J M1 H1 S1 x1 it => fun D nD => ?_⟩
        have n0 : H0 D = none := S1.fresh0 nD
        have nDT : D ≠ T := fun z => S1.trk0 _ S1.t0 (by rw [← z]; exact n0)
        have it' := it.later (lc_later nD)
        have l0 := lc_start S1 nD vs
        refine ⟨fun i m H => m = items.length - i ∧ i ≤ items.length ∧ ∃ M ρ τ acc rest, Lc (cf X T) M0 H0 D M ρ τ (wipe σ vs) H acc ∧ ExD T D (fun b => M1 b ∨ b = D) (upd H1 D (.lst [])) M H ∧ lc2L g h1 g1 t1 f vs vs1 (items.drop i) ρ τ = some (rest, ρf, τ') ∧ acc ++ rest = ds,
          ⟨items.length, by simp, Nat.zero_le _, _, _, _, [], ds, l0, ExD.refl .., by rw [List.drop_zero]; exact e2, rfl⟩, ?_⟩
        rintro i m H2 ⟨rfl, hi, M2, ρ2, τ2, acc, rest, l, x0, e3, ea⟩
        have LL := x0.later l0.mt l0.md
        by_cases hlt : i < items.length
        · rw [List.drop_eq_getElem_cons hlt] at e3
          obtain ⟨xs, eD, q, S2⟩ := l.it
          obtain ⟨go, yl⟩ := it'.go M2 H2 LL S2.trk i items[i] (List.getElem?_eq_getElem hlt)
          refine .inr ⟨go, fun H' => i + 1 ≤ items.length ∧ ∃ M ρ τ acc rest, Lc (cf X T) M0 H0 D M ρ τ (wipe σ vs) H' acc ∧ ExD T D (fun b => M1 b ∨ b = D) (upd H1 D (.lst [])) M H' ∧ lc2L g h1 g1 t1 f vs vs1 (items.drop (i + 1)) ρ τ = some (rest, ρf, τ') ∧ acc ++ rest = ds,
            fun H' q => ⟨items.length - (i + 1), by omega, rfl, q⟩, fun x H3 y => ?_⟩
          obtain ⟨gr, rx⟩ := yl x H3 y
          unfold lc2L at e3
          cases e4 : g items[i] ρ2 with
          | none => rw [e4] at e3; cases e3
          | some ρ4 =>
            rw [e4] at e3
            simp only [Option.bind_some] at e3
            refine ⟨T, _, _, M2, ρ2, τ2, items[i], ρ4, S2.grow gr, rx, e4, fun σ2 S4 ft => ?_⟩
            have hw : wipe σ2 vs = wipe σ vs := wipe_foot (ft.mono his)
            refine ⟨hw, T, _, _, M2, ρ4, τ2, true, ρ4, τ2, S4, rfl, fun M5 H5 S5 x5 => iteT ?_⟩
            cases e6 : h1 ρ4 τ2 with
            | none => rw [e6] at e3; cases e3
            | some r6 =>
              obtain ⟨items1, ρ6, τ6⟩ := r6
              rw [e6] at e3
              simp only [Option.bind_some] at e3
              refine ⟨T, _, _, M5, ρ4, τ2, items1, ρ6, τ6, S5, e6, fun J1 M6 H6 S6 x6 it1 => ?_⟩
              cases e7 : lcL g1 t1 f vs1 items1 (wipeD ρ6 vs1) τ6 with
              | none => rw [e7] at e3; cases e3
              | some r7 =>
                obtain ⟨outs1, ρ7, τ7⟩ := r7
                rw [e7] at e3
                simp only [Option.bind_some] at e3
                cases e8 : lc2L g h1 g1 t1 f vs vs1 (items.drop (i + 1)) (wipeD ρ7 vs) τ7 with
                | none => rw [e8] at e3; cases e3
                | some r8 =>
                  obtain ⟨outs2, ρ8, τ8⟩ := r8
                  rw [e8] at e3
                  have e3 : (outs1 ++ outs2, ρ8, τ8) = (rest, ρf, τ') := Option.some.inj e3
                  cases e3
                  have D6 : H6 D = some (.lst xs) := S6.fr D _ upd_same nDT
                  have q6 : RpAll M6 H6 xs acc := RpAll.later ((gr.later.trans (x5.later S2.mt)).trans (x6.later S5.mt)) _ _ q
                  have x6' : ExD T D (fun b => M1 b ∨ b = D) (upd H1 D (.lst [])) M6 H6 := ((x0.trans (gr.ex (T := T)).d).trans x5.d).trans x6.d
                  have l6 : Lc (cf X T) M0 H0 D M6 (wipeD ρ6 vs1) τ6 (wipe σ2 vs1) H6 acc := ⟨xs, D6, q6, S6.wipe vs1⟩
                  have el := congrArg List.length ea
                  simp only [List.length_append] at el
                  refine lc_loop (M0 := M0) (H0 := H0) n0 S1.t0 S1.trk0 his1 it1 l6 e7 (by omega) fun M' H' l7 x7 => ?_
                  refine ⟨hlt, M', _, τ7, acc ++ outs1, outs2, ?_, x6'.trans x7, e8, by rw [List.append_assoc]; exact ea⟩
                  obtain ⟨xs7, D7, q7, S7⟩ := l7.it
                  refine ⟨xs7, D7, q7, ?_⟩
                  rw [← wipe_wipe hw hv]
                  exact S7.wipe vs
        · have ei : i = items.length := by omega
          subst ei
          rw [List.drop_length] at e3
          cases e3
          rw [List.append_nil] at ea
          subst ea
          exact .inl ⟨it'.stop M2 H2 LL, k D M2 H2 (lc_end n0 S1 x1 nD l x0)⟩
      · cases ef
end
end ND

set_option Elab.async false
set_option linter.all false
set_option maxRecDepth 100000
set_option maxHeartbeats 4000000
/-! ND7: built-ins on data. -/
namespace ND
open PySem PySem.Spec L2
open PyProof.Rows hiding St

section
variable {X : Cx} {e a b : Expr} {f g : EF} {pos : Pos} {es : List Expr} {h : AF}

/-! ### len -/
def lenF : List W → Option W
  | [.dat (.list ds)] => some (.dat (.int ds.length))
  | [.dat (.tuple ds)] => some (.dat (.int ds.length))
  | [.dat (.str x)] => if x.length ≤ 16777216 then some (.dat (.int x.length)) else none
  | _ => none
def rLenP (K : PySem.W.Frag) : List V → Hp → VK → Prop := fun xs H Q => (∃ p ys, xs = [.ref p] ∧ (SqL K H p ys ∨ SqT K H p ys) ∧ Q (.int ys.length) H) ∨ (∃ z, xs = [.str z] ∧ z.length ≤ sizeLine ∧ Q (.int z.length) H)
theorem cr_lenP : CallR X (.builtin "len") (rLenP X.K) := call_len_seq.or call_len_str
theorem cd_len : CallD X (rLenP X.K) lenF := fun T M H ws w vs Q e tr mt r k => by
  unfold lenF at e
  split at e
  · cases e
    cases r with
    | cons r1 r2 =>
      cases r2
      obtain ⟨a, xs, rfl, ea, _, q⟩ := r1
      exact .inl ⟨a, xs, rfl, .inl (SqL.of ea), by rw [q.length]; exact k _ H (Gr.refl H) (Rp.int _)⟩
  · next ds =>
    cases e
    cases r with
    | cons r1 r2 =>
      cases r2
      cases (show Rp M H _ (.tuple ds) from r1) with
      | tup ea dn n q => exact .inl ⟨_, _, rfl, .inr (sqt ea), by rw [q.length]; exact k _ H (Gr.refl H) (Rp.int _)⟩
  · split at e
    · next hl =>
      cases e
      cases r with
      | cons r1 r2 =>
        cases r2
        cases (show Rp M H _ _ from r1)
        exact .inr ⟨_, rfl, szl hl, k _ H (Gr.refl H) (Rp.int _)⟩
    · cases e
  · cases e

/-! ### isinstance -/
def tyD : PyData → String
  | .none => "NoneType"
  | .bool _ => "bool"
  | .int _ => "int"
  | .str _ => "str"
  | .list _ => "list"
  | .tuple _ => "tuple"
  | .dict _ => "dict"
def isT (t : String) : PyData → Bool
  | .bool _ => t == "bool" || t == "int"
  | d => t == tyD d
def isiW (ts : List String) : W → Option W
  | .dat d => some (.dat (.bool (ts.any fun t => isT t d)))
  | _ => none
theorem rb_ty {C : Cf} {K : PySem.W.Frag} {M : MS} {H : Hp} {d : PyData} {v : V} (r : RB C M H (.dat d) v) : TyX K H v (.type (tyD d)) := by
  cases d with
  | none => cases (show Rp M H v _ from r); exact .base .non
  | bool b => cases (show Rp M H v _ from r); exact .base (.bl b)
  | int i => cases (show Rp M H v _ from r); exact .base (.int i)
  | str x => cases (show Rp M H v _ from r); exact .base (.str x)
  | list ds => obtain ⟨a, xs, rfl, ea, _⟩ := r; exact .base (.lst ea)
  | tuple ds =>
    cases (show Rp M H v (.tuple ds) from r) with
    | tup ea dn n q => exact .fTuple ea
  | dict _ => cases (show Rp M H v _ from r)
def KitT (t : String) : Prop := ∀ d, kitB (tyD d) t = some (isT t d)
theorem kit_int : KitT "int"
  | .none => (by decide +kernel : kitB "NoneType" "int" = some false)
  | .bool _ => (by decide +kernel : kitB "bool" "int" = some true)
  | .int _ => (by decide +kernel : kitB "int" "int" = some true)
  | .str _ => (by decide +kernel : kitB "str" "int" = some false)
  | .list _ => (by decide +kernel : kitB "list" "int" = some false)
  | .tuple _ => (by decide +kernel : kitB "tuple" "int" = some false)
  | .dict _ => (by decide +kernel : kitB "dict" "int" = some false)
theorem kit_bool : KitT "bool"
  | .none => (by decide +kernel : kitB "NoneType" "bool" = some false)
  | .bool _ => (by decide +kernel : kitB "bool" "bool" = some true)
  | .int _ => (by decide +kernel : kitB "int" "bool" = some false)
  | .str _ => (by decide +kernel : kitB "str" "bool" = some false)
  | .list _ => (by decide +kernel : kitB "list" "bool" = some false)
  | .tuple _ => (by decide +kernel : kitB "tuple" "bool" = some false)
  | .dict _ => (by decide +kernel : kitB "dict" "bool" = some false)
theorem kit_str : KitT "str"
  | .none => (by decide +kernel : kitB "NoneType" "str" = some false)
  | .bool _ => (by decide +kernel : kitB "bool" "str" = some false)
  | .int _ => (by decide +kernel : kitB "int" "str" = some false)
  | .str _ => (by decide +kernel : kitB "str" "str" = some true)
  | .list _ => (by decide +kernel : kitB "list" "str" = some false)
  | .tuple _ => (by decide +kernel : kitB "tuple" "str" = some false)
  | .dict _ => (by decide +kernel : kitB "dict" "str" = some false)
theorem kit_list : KitT "list"
  | .none => (by decide +kernel : kitB "NoneType" "list" = some false)
  | .bool _ => (by decide +kernel : kitB "bool" "list" = some false)
  | .int _ => (by decide +kernel : kitB "int" "list" = some false)
  | .str _ => (by decide +kernel : kitB "str" "list" = some false)
  | .list _ => (by decide +kernel : kitB "list" "list" = some true)
  | .tuple _ => (by decide +kernel : kitB "tuple" "list" = some false)
  | .dict _ => (by decide +kernel : kitB "dict" "list" = some false)
theorem kit_tuple : KitT "tuple"
  | .none => (by decide +kernel : kitB "NoneType" "tuple" = some false)
  | .bool _ => (by decide +kernel : kitB "bool" "tuple" = some false)
  | .int _ => (by decide +kernel : kitB "int" "tuple" = some false)
  | .str _ => (by decide +kernel : kitB "str" "tuple" = some false)
  | .list _ => (by decide +kernel : kitB "list" "tuple" = some false)
  | .tuple _ => (by decide +kernel : kitB "tuple" "tuple" = some true)
  | .dict _ => (by decide +kernel : kitB "dict" "tuple" = some false)
theorem de_isi {t : String} (kt : KitT t) (h : PE X e (tCB (rIsi X.K) (tCons (tDB X f) (tCons (tC (.ty t)) tNil)))) : DE X e (un1 (isiW [t]) f) :=
  h.mono fun σ H Q hh => un1_td (r := fun v H Q => rIsi X.K [v, .ty t] H Q) (fun T M H w1 w v1 Q ew tr mt r k => by
    unfold isiW at ew
    split at ew
    · next d =>
      cases ew
      refine ⟨v1, .ty t, _, _, isT t d, rfl, .ty t, rb_ty r, kit_ty (kt d), k _ H (Gr.refl H) ?_⟩
      simp only [List.any_cons, List.any_nil, Bool.or_false]
      exact Rp.bl _
    · cases ew) hh
theorem de_isi2 {t u : String} (kt : KitT t) (ku : KitT u) (h : PE X e (tCB (rIsiT X.K) (tCons (tDB X f) (tCons (tTup (tCons (tC (.ty t)) (tCons (tC (.ty u)) tNil))) tNil)))) : DE X e (un1 (isiW [t, u]) f) :=
  h.mono fun σ H Q hh => un1_td (r := fun v H Q => 2 ≤ sizeLine ∧ ∀ p, H p = none → rIsiT X.K [v, .ref p] (upd H p (.tup [.ty t, .ty u])) Q) (fun T M H w1 w v1 Q ew tr mt r k => by
    unfold isiW at ew
    split at ew
    · next d =>
      cases ew
      refine ⟨by decide, fun p np => ?_⟩
      have r' : RB (cf X T) M (upd H p (.tup [.ty t, .ty u])) (.dat d) v1 := RB.ex (C := cf X T) mt (Gr.upd np).ex r
      refine ⟨v1, p, _, _, [.type t, .type u], isT t d || isT u d, rfl, upd_same, .cons (.ty t) (.cons (.ty u) .nil), rb_ty r', ?_, k _ _ (Gr.upd np) ?_⟩
      · refine kitAny_cons (kit_ty (kt d)) (fun z => kitAny_cons (kit_ty (ku d)) (fun z2 => by rw [z, z2]; exact kitAny_nil) fun z2 => by rw [z2, Bool.or_true]) fun z => by rw [z, Bool.true_or]
      · simp only [List.any_cons, List.any_nil, Bool.or_false]
        exact Rp.bl _
    · cases ew) hh

/-! ### list(x), tuple(x) -/
def listN (h : AF) : FF := fun ρ τ => (h ρ τ).bind fun r => match r.1 with
  | [.dat (.list ds)] => some (ds, r.2.1, r.2.2)
  | [.dat (.tuple ds)] => some (ds, r.2.1, r.2.2)
  | _ => none
theorem dn_list {x : Str} {p : Pos} (hg : Gl X x) (hm : X.mg x = none) (hv : bootBuiltins x = some (.type "list")) (ha : DAB X [e] h) (hn : x ≠ "__name__" := by decide) (hdb : (x == ("__debug__" : Str)) = false := by decide)
    (he : starEach [e] X.env = (false, eval e X.env) :: starEach [] X.env := by rfl) (hpl : (backTo pos (starEach [] X.env)).any (·.1) = false := by rfl) : DN X (.Call (.Name x p) [e] [] pos) (listN h) :=
  (pe_callTy call_list_of hg hm hv ha hn hdb he hpl).mono fun σ H Q ⟨T, M0, H0, M, ρ, τ, ds, ρ', τ', S, ef, k⟩ => by
    unfold listN at ef
    cases e1 : h ρ τ with
    | none => rw [e1] at ef; cases ef
    | some r1 =>
      obtain ⟨ws, ρ1, τ1⟩ := r1
      rw [e1] at ef
      simp only [Option.bind_some] at ef
      refine ⟨T, M0, H0, M, ρ, τ, ws, ρ1, τ1, S, e1, fun vs M1 H1 S1 x1 q1 => ?_⟩
      split at ef
      · cases ef
        cases q1 with
        | cons r1 r2 =>
          cases r2
          obtain ⟨a, xs, rfl, ea, _, q⟩ := r1
          exact ⟨a, xs, rfl, .inl (SqL.of ea), fun l nl => k _ _ _ (S1.allocL x1 nl q)⟩
      · next ds =>
        cases ef
        cases q1 with
        | cons r1 r2 =>
          cases r2
          cases (show Rp M1 H1 _ (.tuple _) from r1) with
          | tup ea dn n q => exact ⟨_, _, rfl, .inr (sqt ea), fun l nl => k _ _ _ (S1.allocL x1 nl q)⟩
      · cases ef
def tupleF : List W → Option W
  | [.dat (.list ds)] => some (.dat (.tuple ds))
  | [.dat (.tuple ds)] => some (.dat (.tuple ds))
  | _ => none
theorem cd_tuple : CallD X (rTupleF X.K) tupleF := fun T M H ws w vs Q e tr mt r k => by
  unfold tupleF at e
  split at e
  · cases e
    cases r with
    | cons r1 r2 =>
      cases r2
      obtain ⟨a, xs, rfl, ea, _, q⟩ := r1
      exact ⟨a, xs, rfl, .inl ⟨SqL.of ea, fun l o nl dn => k _ _ (Gr.upd nl) (Rp.tup upd_same dn (fun m => tr l m nl) (RpAll.later (Gr.upd nl).later _ _ q))⟩⟩
  · next ds =>
    cases e
    cases r with
    | cons r1 r2 =>
      cases r2
      cases (show Rp M H _ (.tuple ds) from r1) with
      | tup ea dn n q => exact ⟨_, _, rfl, .inr ⟨sqt ea, k _ H (Gr.refl H) (Rp.tup ea dn n q)⟩⟩
  · cases e
/-- list(range(..)) -/
def rgN (h : FF) : FF := fun ρ τ => (h ρ τ).bind fun r => if r.1.length ≤ 16777216 then some (r.1, r.2.1, r.2.2) else none
def rg2D (f g : EF) : FF := fun ρ τ => (f ρ τ).bind fun r => (g r.2.1 r.2.2).bind fun q => match r.1, q.1 with
  | .dat (.int i), .dat (.int j) => if (-4611686018427387904 ≤ i ∧ i < 4611686018427387904) ∧ (-4611686018427387904 ≤ j ∧ j < 4611686018427387904) ∧ (j - i).toNat ≤ 16777216 then some (rangeD i (j - i).toNat, q.2.1, q.2.2) else none
  | _, _ => none
theorem rgV_rp {M : MS} {H : Hp} (i j : Int) : RpAll M H (rgV i j) (rangeD i (j - i).toNat) := by
  unfold rgV rangeD
  generalize List.range (j - i).toNat = l
  induction l with
  | nil => exact .nil
  | cons x xs ih => exact .cons (.int _) ih
theorem dn_listRg2 (h : PE X e (tLstRg (tRg2 (tDB X f) (tDB X g)))) : DN X e (rg2D f g) :=
  h.mono fun σ H Q ⟨T, M0, H0, M, ρ, τ, ds, ρ', τ', S, ef, k⟩ => by
    unfold rg2D at ef
    cases e1 : f ρ τ with
    | none => rw [e1] at ef; cases ef
    | some r1 =>
      obtain ⟨w1, ρ1, τ1⟩ := r1
      rw [e1] at ef
      simp only [Option.bind_some] at ef
      cases e2 : g ρ1 τ1 with
      | none => rw [e2] at ef; cases ef
      | some r2 =>
        obtain ⟨w2, ρ2, τ2⟩ := r2
        rw [e2] at ef
        simp only [Option.bind_some] at ef
        refine ⟨T, M0, H0, M, ρ, τ, w1, ρ1, τ1, S, e1, fun v1 M1 H1 S1 x1 q1 => ?_⟩
        refine ⟨T, M0, H0, M1, ρ1, τ1, w2, ρ2, τ2, S1, e2, fun v2 M2 H2 S2 x2 q2 => ?_⟩
        split at ef
        · next i j =>
          split at ef
          · next hh =>
            cases ef
            cases (show Rp M1 H1 v1 _ from q1)
            cases (show Rp M2 H2 v2 _ from q2)
            exact ⟨i, j, rfl, rfl, ⟨by omega, by omega, by omega, by omega, by omega⟩, fun l nl => k _ _ _ (S2.allocL (x1.trans x2) nl (rgV_rp i j))⟩
          · cases ef
        · cases ef

/-! ### sorted -/
def isort {α : Type} (le : α → α → Bool) : List α → List α
  | [] => []
  | x :: xs => ins x (isort le xs)
where
  ins (x : α) : List α → List α
    | [] => [x]
    | y :: ys => if le x y = true then x :: y :: ys else y :: ins x ys
theorem ins_mem {α : Type} (le : α → α → Bool) (x z : α) : ∀ l : List α, z ∈ isort.ins le x l ↔ z = x ∨ z ∈ l
  | [] => by simp [isort.ins]
  | y :: ys => by
    unfold isort.ins
    split
    · simp
    · simp only [List.mem_cons, ins_mem le x z ys]
      constructor
      · rintro (h | h | h)
        · exact .inr (.inl h)
        · exact .inl h
        · exact .inr (.inr h)
      · rintro (h | h | h)
        · exact .inr (.inl h)
        · exact .inl h
        · exact .inr (.inr h)
theorem isort_mem {α : Type} (le : α → α → Bool) (z : α) : ∀ l : List α, z ∈ isort le l ↔ z ∈ l
  | [] => by simp [isort]
  | x :: xs => by unfold isort; rw [ins_mem, isort_mem le z xs, List.mem_cons]
open PySem.W in
theorem ins_pairwise {α : Type} {le : α → α → Bool} (T : TotalLe le) (x : α) : ∀ l : List α, l.Pairwise (fun a b => le a b = true) → (isort.ins le x l).Pairwise (fun a b => le a b = true)
  | [], _ => by simp [isort.ins]
  | y :: ys, h => by
    obtain ⟨h1, h2⟩ := List.pairwise_cons.mp h
    unfold isort.ins
    split
    · next hxy =>
      refine List.pairwise_cons.mpr ⟨fun z hz => ?_, h⟩
      rcases List.mem_cons.mp hz with rfl | hz
      · exact hxy
      · exact T.trans _ _ _ hxy (h1 z hz)
    · next hxy =>
      refine List.pairwise_cons.mpr ⟨fun z hz => ?_, ins_pairwise T x ys h2⟩
      rcases (ins_mem le x z ys).mp hz with rfl | hz
      · exact (T.total y z).resolve_right hxy
      · exact h1 z hz
open PySem.W in
theorem isort_pairwise {α : Type} {le : α → α → Bool} (T : TotalLe le) : ∀ l : List α, (isort le l).Pairwise (fun a b => le a b = true)
  | [] => by simp [isort]
  | x :: xs => ins_pairwise T x _ (isort_pairwise T xs)
open PySem.W in
theorem ins_filter {α : Type} {le : α → α → Bool} (T : TotalLe le) (x c : α) : ∀ l : List α, l.Pairwise (fun a b => le a b = true) → (isort.ins le x l).filter (sameRank le c) = (x :: l).filter (sameRank le c)
  | [], _ => by simp [isort.ins]
  | y :: ys, h => by
    obtain ⟨h1, h2⟩ := List.pairwise_cons.mp h
    unfold isort.ins
    split
    · rfl
    · next hxy =>
      rw [List.filter_cons, ins_filter T x c ys h2, List.filter_cons, List.filter_cons (x := x) (xs := y :: ys), List.filter_cons (x := y) (xs := ys)]
      cases hx : sameRank le c x with
      | false => simp
      | true =>
        cases hy : sameRank le c y with
        | false => simp
        | true =>
          exfalso
          unfold sameRank at hx hy
          rw [Bool.and_eq_true] at hx hy
          exact hxy (T.trans _ _ _ hx.2 hy.1)
open PySem.W in
theorem isort_filter {α : Type} {le : α → α → Bool} (T : TotalLe le) (c : α) : ∀ l : List α, (isort le l).filter (sameRank le c) = l.filter (sameRank le c)
  | [] => rfl
  | x :: xs => by
    unfold isort
    rw [ins_filter T x c _ (isort_pairwise T xs), List.filter_cons, List.filter_cons, isort_filter T c xs]
open PySem.W in
theorem isort_merge {α : Type} {le : α → α → Bool} (T : TotalLe le) (l : List α) : l.mergeSort le = isort le l := (sort_unique T (isort_pairwise T l) fun c => isort_filter T c l).symm
/-- Python's order -/
def leD (a b : PyData) : Bool := !PySem.W.dataLt b a
theorem leD_eq : leD = PySem.W.dataLe false id := rfl
theorem leD_total : PySem.W.TotalLe leD := by
  rw [leD_eq]
  exact PySem.W.sortLe_total _ false _
def sortD (ds : List PyData) : List PyData := isort leD ds
def isTup1 : PyData → Bool
  | .tuple (_ :: _) => true
  | _ => false
def isPlain : PyData → Bool
  | .none => false
  | .tuple _ => false
  | _ => true
def sortOk (ds : List PyData) : Bool := ds.all (fun a => ds.all fun b => PySem.W.alike a b) && (ds.all isTup1 || ds.all isPlain) && ds.all (fun a => decide (a.depth ≤ 60)) && decide (ds.length ≤ 16777216)
def sortedF : List W → Option W
  | [.dat (.list ds)] => if sortOk ds = true then some (.dat (.list (sortD ds))) else none
  | [.dat (.tuple ds)] => if sortOk ds = true then some (.dat (.list (sortD ds))) else none
  | _ => none
theorem sortOk_all {ds : List PyData} (h : sortOk ds = true) : PySem.W.AllAlike ds ∧ PySem.W.Sortable ds ∧ (∀ d ∈ ds, d.depth ≤ 60) ∧ ds.length ≤ 16777216 := by
  unfold sortOk at h
  simp only [Bool.and_eq_true, Bool.or_eq_true, List.all_eq_true, decide_eq_true_eq] at h
  obtain ⟨⟨⟨h1, h2⟩, h3⟩, h4⟩ := h
  refine ⟨fun d hd d' hd' => h1 d hd d' hd', ?_, h3, h4⟩
  rcases h2 with h2 | h2
  · refine .inl fun d hd => ?_
    have q := h2 d hd
    unfold isTup1 at q
    split at q
    · exact ⟨_, _, rfl⟩
    · cases q
  · refine .inr fun d hd => ?_
    have q := h2 d hd
    unfold isPlain at q
    split at q
    · cases q
    · cases q
    · next n1 n2 => exact ⟨n1, n2⟩
open PySem.W PySem.Calls in
/-- sorted(..) of anything whose items vs can be gathered, while all that stood stays; the items stand for the data ds -/
theorem sorted_gather {prog : Program} {w : World} {A : Around} {E : Value → Shared → Prop} {s : Shared} {l : Addr} {vs : List Value} {ds : List PyData} {R : Value → PyData → Prop} {Q : Value → Shared → Prop}
    (gather : ∀ (Q : List Value → Shared → Prop) (E : Value → Shared → Prop), (∀ (h1 : Heap) (t1 : Nat), (∀ b o, s.heap.get? b = some o → h1.get? b = some o) → Q vs { s with heap := h1, toks := t1 }) → wpAny (model prog w) A.in1 (collect (.ref l)) Q E s)
    (stand : EachIs R vs ds) (reads : EachIs (fun v d => ∃ as, Reads s.heap v d as) vs ds) (al : AllAlike ds) (so : Sortable ds) (few : ds.length ≤ sizeLine) (room : ∀ d, d ∈ ds → A.units + 2 + d.depth < cLine)
    (fin : ∀ (h1 h2 : Heap) (t1 : Nat) (out : List Value) (n : Nat), (∀ b o, s.heap.get? b = some o → h1.get? b = some o) → (∀ b o, h1.get? b = some o → h2.get? b = some o) → h2.get? h1.objs.size = some (seqObj "list" (List.toArray out) n) → out.length = ds.length → EachIs R out (ds.mergeSort (dataLe false id)) →
      Q (.ref h1.objs.size) { s with heap := h2, toks := t1 }) : wpAny (model prog w) A (call (.builtin "sorted") [.ref l]) Q E s := by
  have few' : vs.length ≤ sizeLine := stand.length ▸ few
  refine call_function_entry kind_sorted plain_sorted entry_sorted (args_sorted1 _) (wpAny_bind (m := checkCount "sorted" 1 1 _) (wpAny_pure (wpAny_bind (gather _ _ fun h1 t1 k1 => wpAny_bind (wpAny_newList ?_ few')))))
  -- the copy, and what is read in it while it is sorted
  generalize eg : h1.push { cls := .type "list", data := .seq vs.toArray } = g
  have at_g : g.get? h1.objs.size = some (seqObj "list" vs.toArray 0) := by rw [← eg]; exact Heap.get?_push_size _ rfl
  have size_g : g.objs.size = h1.objs.size + 1 := by rw [← eg]; exact Heap.size_push ..
  have old : ∀ b o, h1.get? b = some o → b ≠ h1.objs.size ∧ b < g.objs.size ∧ g.get? b = some o := fun b o e =>
    have lt : b < h1.objs.size := Heap.lt_size e
    ⟨Nat.ne_of_lt lt, by rw [size_g]; exact Nat.lt_succ_of_lt lt, by rw [← eg]; exact Heap.get?_push_of_some _ e⟩
  have there : EachIs (fun v d => ∃ as, Reads (sortingHeap g h1.objs.size vs) v d as) vs ds :=
    reads.mono fun _ _ ⟨as, r⟩ => ⟨as, PyProof.Rows.Reads.keeps (fun b o e => have z := old b o (k1 b o e); sortingHeap_old z.1 z.2.2) r⟩
  have sorts : SortsAt prog w A.in1.in1 { s with heap := sortingHeap g h1.objs.size vs, toks := t1 } (dataKind (sortingHeap g h1.objs.size vs) ds) vs := SortsAt.data there al so room
  have each := sortVals_data (enc := id) false stand there (by rw [List.map_id]; exact al)
  rw [List.map_id] at each
  have len := sortVals_length (κ := dataKind (sortingHeap g h1.objs.size vs) ds) false (ks := vs) (vs := vs) rfl
  obtain ⟨n, at_out⟩ := sortedHeap_at (out := (sortVals (dataKind (sortingHeap g h1.objs.size vs) ds) false vs vs).toArray) at_g
  refine wpAny_bind (wpAny_holding (wpAny_call_entry slot_list_sort ⟨_, at_g, rfl⟩ entry_list_sort (list_sort_vals (s := { s with heap := g, toks := t1 }) at_g sorts few' ?_) (args_list_sort _)))
  refine ⟨.none, rfl, wpAny_pure ⟨_, rfl, ?_⟩⟩
  exact fin h1 _ t1 _ n k1 (fun b o e => have z := old b o e; (sortedHeap_old z.1 z.2.1).trans z.2.2) at_out (len.trans stand.length) each
open PySem.W in
def rSortP (K : PySem.W.Frag) : List V → Hp → VK → Prop := fun vs H Q => ∃ (a : Addr) (xs : List V) (ds : List PyData) (Rel : V → PyData → Prop), vs = [.ref a] ∧ (SqL K H a xs ∨ SqT K H a xs) ∧ DpAll K H xs ds ∧ EachIs Rel xs ds ∧ sortOk ds = true ∧
  ∀ p ys, H p = none → EachIs Rel ys (sortD ds) → Q (.ref p) (upd H p (.lst ys))
open PySem.W in
theorem vals_each {Rel : V → PyData → Prop} : ∀ {xs : List V} {us : List Value} {ds : List PyData}, Vals xs us → EachIs Rel xs ds → EachIs (fun u d => ∃ v, RelV v u ∧ Rel v d) us ds
  | _, _, _, .nil, .nil => .nil
  | _, _, _, .cons r t, .cons q s => .cons ⟨_, r, q⟩ (vals_each t s)
open PySem.W in
theorem each_vals {Rel : V → PyData → Prop} : ∀ {us : List Value} {ds : List PyData}, EachIs (fun u d => ∃ v, RelV v u ∧ Rel v d) us ds → ∃ xs, Vals xs us ∧ EachIs Rel xs ds
  | _, _, .nil => ⟨[], .nil, .nil⟩
  | _, _, .cons ⟨v, r, q⟩ t => by
    obtain ⟨xs, h1, h2⟩ := each_vals t
    exact ⟨v :: xs, .cons r h1, .cons q h2⟩
open PySem.W in
theorem cr_sortP (hu : X.A.units + 64 < cLine) : CallR X (.builtin "sorted") (rSortP X.K) := by
  intro pins s σ H vs us Q I r h
  obtain ⟨a, xs, ds, Rel, rfl, hs, hd, hr, ok, q⟩ := h
  obtain ⟨al, sb, dp, hl⟩ := sortOk_all ok
  rw [Vals.ref1 r]
  -- whichever of the two it is: its items are gathered
  have main : ∀ its : List Value, Vals xs its → (∀ (Q : List Value → Shared → Prop) (E : Value → Shared → Prop), (∀ (h1 : Heap) (t1 : Nat), (∀ b o, s.heap.get? b = some o → h1.get? b = some o) → Q its { s with heap := h1, toks := t1 }) → wpAny (model X.prog X.w) X.A.in1 (collect (.ref a)) Q E s) →
      wpAny (model X.prog X.w) X.A (call (.builtin "sorted") [.ref a]) (EP X pins σ Q) X.xe s := fun its rv gather => by
    obtain ⟨as, rd⟩ := Dp.readsAll I ds xs its hd rv
    rw [← List.map_id ds] at rd
    refine sorted_gather gather (vals_each rv hr) (readsAll_each id rd) al sb (szl hl) (fun d m => by have := dp d m; omega) fun h1 h2 t1 out n k1 k2 e len each => ?_
    obtain ⟨ys, rys, each'⟩ := each_vals each
    rw [← leD_eq, isort_merge leD_total] at each'
    have I1 : Inv X pins σ H { s with heap := h1, toks := t1 } := I.kept k1
    exact ⟨.ref _, _, I1.laid (t' := t1) (o := .lst ys) k2 (Nat.le_refl _) ⟨by rw [rys.length, len]; exact szl hl, out, n, rys, e⟩, rfl, q _ ys (I1.hok.fresh (Nat.le_refl _)) each'⟩
  rcases hs with hs | hs
  · obtain ⟨its, rv, pl, few⟩ := I.list hs
    obtain ⟨o, e, c, n, d⟩ := pl.isList
    exact main its rv fun Q E k => wpAny_collect_seq a (.inl rfl) e c d (fun h1 k1 => k h1 s.toks k1) (by rw [List.size_toArray, ← rv.length]; exact few)
  · obtain ⟨its, rv, ⟨o, e, c, n, d⟩, few⟩ := I.tuple hs
    exact main its rv fun Q E k => wpAny_collect_seq a (.inr rfl) e c d (fun h1 k1 => k h1 s.toks k1) (by rw [List.size_toArray, ← rv.length]; exact few)
open PySem.W in
theorem rp_each {M : MS} {H : Hp} : ∀ {xs : List V} {ds : List PyData}, RpAll M H xs ds → EachIs (Rp M H) xs ds
  | _, [], h => by cases h; exact .nil
  | _, d :: ds, h => by
    cases h with
    | cons h1 h2 => exact .cons h1 (rp_each h2)
open PySem.W in
theorem each_rp {M : MS} {H : Hp} : ∀ {xs : List V} {ds : List PyData}, EachIs (Rp M H) xs ds → RpAll M H xs ds
  | _, [], h => by cases h; exact .nil
  | _, d :: ds, h => by
    cases h with
    | cons h1 h2 => exact .cons h1 (each_rp h2)
theorem cd_sorted : CallD X (rSortP X.K) sortedF := fun T M H ws w vs Q e tr mt r k => by
  have fin : ∀ (a : Addr) (xs : List V) (ds : List PyData), (SqL X.K H a xs ∨ SqT X.K H a xs) → RpAll M H xs ds → sortOk ds = true → (∀ v H', Gr H H' → Rp M H' v (.list (sortD ds)) → Q v H') → rSortP X.K [.ref a] H Q := fun a xs ds hs q ok k =>
    ⟨a, xs, ds, Rp M H, rfl, hs, RpAll.dp _ _ q, rp_each q, ok, fun p ys np hy => k _ _ (Gr.upd np) (Rp.lst upd_same (fun m => tr p m np) (RpAll.later (Gr.upd np).later _ _ (each_rp hy)))⟩
  unfold sortedF at e
  split at e
  · split at e
    · next ok =>
      cases e
      cases r with
      | cons r1 r2 =>
        cases r2
        obtain ⟨a, xs, rfl, ea, _, q⟩ := r1
        exact fin a xs _ (.inl (SqL.of ea)) q ok k
    · cases e
  · next ds =>
    split at e
    · next ok =>
      cases e
      cases r with
      | cons r1 r2 =>
        cases r2
        cases (show Rp M H _ (.tuple ds) from r1) with
        | tup ea dn n q => exact fin _ _ _ (.inr (sqt ea)) q ok k
    · cases e
  · cases e

/-! ### all, any -/
def bools : List PyData → Option (List Bool)
  | [] => some []
  | .bool b :: ds => (bools ds).map fun bs => b :: bs
  | _ :: _ => none
theorem bools_map : ∀ {ds : List PyData} {bs : List Bool}, bools ds = some bs → ds = bs.map PyData.bool
  | [], _, h => by cases h; rfl
  | d :: ds, bs, h => by
    cases d with
    | bool b =>
      cases q : bools ds with
      | none => rw [show bools (.bool b :: ds) = (bools ds).map fun bs => b :: bs from rfl, q] at h; cases h
      | some cs =>
        rw [show bools (.bool b :: ds) = (bools ds).map fun bs => b :: bs from rfl, q] at h
        cases h
        rw [bools_map q]
        rfl
    | _ => cases h
def allF : List W → Option W
  | [.dat (.list ds)] => (bools ds).map fun bs => .dat (.bool (bs.all id))
  | _ => none
def anyF : List W → Option W
  | [.dat (.list ds)] => (bools ds).map fun bs => .dat (.bool (bs.any id))
  | _ => none
theorem cd_all : CallD X (rAll X.K) allF := fun T M H ws w vs Q e tr mt r k => by
  unfold allF at e
  split at e
  · next ds =>
    cases eb : bools ds with
    | none => rw [eb] at e; cases e
    | some bs =>
      rw [eb] at e
      cases e
      have := bools_map eb
      subst this
      cases r with
      | cons r1 r2 =>
        cases r2
        obtain ⟨a, xs, rfl, ea, _, q⟩ := r1
        have := q.bool_inv
        subst this
        exact ⟨a, bs, rfl, SqL.of ea, k _ H (Gr.refl H) (Rp.bl _)⟩
  · cases e
theorem cd_any : CallD X (rAny X.K) anyF := fun T M H ws w vs Q e tr mt r k => by
  unfold anyF at e
  split at e
  · next ds =>
    cases eb : bools ds with
    | none => rw [eb] at e; cases e
    | some bs =>
      rw [eb] at e
      cases e
      have := bools_map eb
      subst this
      cases r with
      | cons r1 r2 =>
        cases r2
        obtain ⟨a, xs, rfl, ea, _, q⟩ := r1
        have := q.bool_inv
        subst this
        exact ⟨a, bs, rfl, SqL.of ea, k _ H (Gr.refl H) (Rp.bl _)⟩
  · cases e
end
end ND

set_option Elab.async false
set_option linter.all false
set_option maxRecDepth 100000
set_option maxHeartbeats 4000000
/-! ND8: further built-ins on data. -/
namespace ND
open PySem PySem.Spec L2
open PyProof.Rows hiding St

/-! ### walks of pairs: a walk of the library's kind (WalksT) as a turn -/
/-- what is tracked (Inv) tells the walk's state, its items and its end; what the walk itself writes (wr) is no one's -/
theorem turn_walk {P : Program} {w : World} {K : PySem.W.Frag} {elts : List Expr} {kk : Nat} {tpos : Pos} {it : Addr} {wr : List Addr} {J : It} {tn : Nat → Heap → Prop} (mem : it ∈ wr) (obj : ∀ i h, tn i h → ∀ b ∈ wr, ∃ o, h.get? b = some o ∧ ∀ v, o.data ≠ .cell v)
    (keep : ∀ i h h', tn i h → (∀ b ∈ wr, ∀ o, h.get? b = some o → h'.get? b = some o) → tn i h') (self : ∀ A i (s : Shared) Q E, tn i s.heap → Q (.ref it) s → wpAny (model P w) A (pyIter (.ref it)) Q E s)
    (walk : ∀ (X : Cx) i pins s σ H, X.prog = P → X.w = w → X.K = K → X.A.handled = none → Inv X pins σ H s → tn i s.heap → J.go i H ∨ J.stop i H → ∃ fp n Pt St Mid, WalksT P w X.A it fp wr n Pt St Mid ∧ St i s.heap ∧ (∀ h, St (i + 1) h → tn (i + 1) h) ∧
      (J.go i H → i < n ∧ ∀ us, Pt i us → ∃ xs, Vals xs us.toList ∧ xs.length ≤ sizeLine ∧ ∀ T, H T = none → J.yld i H (.ref T) (upd H T (.tup xs))) ∧ (J.stop i H → i = n)) :
    Turn P w K (.Tuple elts kk tpos) J wr it tn where
  mem := mem
  obj := obj
  keep := keep
  self := self
  item := fun X eP ew eK calm i pins s σ H E I f st go => by
    obtain ⟨fp, n, Pt, St, Mid, W, st', next, yields, _⟩ := walk X i pins s σ H eP ew eK (I.ok.hd calm) I st (.inl go)
    subst eP ew eK
    obtain ⟨lt, yields⟩ := yields go
    refine W.item i s _ _ lt st' fun T us h1 t1 pt young tup mid old1 => ⟨_, rfl, W.go elts kk tpos i T { s with heap := h1, toks := t1 } _ _ mid fun h2 st2 old2 => ?_⟩
    obtain ⟨xs, rel, few, yld⟩ := yields us pt
    have tup2 : h2.IsTuple T us := tup.at fun o e => old2 T o (W.apart i T h1 mid) e
    have new : ObjOk X.prog X.w (upd H T (.tup xs)) h2 T (.tup xs) := ⟨few, us.toList, rel, (show h2.IsTuple T us.toList.toArray by rw [Array.toArray_toList]; exact tup2)⟩
    refine ⟨.ref T, _, I.turnedNew (ch := wr) (t' := t1) (fun b o nb e => old2 b o nb (old1 b o nb e)) f young new, rfl, yld T (I.hok.fresh young), next h2 st2, fun b hb => ?_⟩
    obtain ⟨_, e, _⟩ := obj i _ st b hb
    exact (upd_ne (Nat.ne_of_lt (Nat.lt_of_lt_of_le (Heap.lt_size e) young))).trans (f b hb).1
  done := fun X eP ew eK calm i pins s σ H E I f st stop => by
    obtain ⟨fp, n, Pt, St, Mid, W, st', _, _, last⟩ := walk X i pins s σ H eP ew eK (I.ok.hd calm) I st (.inr stop)
    subst eP ew eK
    obtain rfl := last stop
    exact W.done s _ _ st' fun h1 t1 old => ⟨rfl, I.turnedL (t' := t1) old f⟩
/-- an iterator of two new objects, the second one over the first -/
theorem pi_two {X : Cx} {tg : Expr} {pins : List (Addr × Obj)} {σ : St} {H : Hp} {s : Shared} {R : It → Hp → Prop} {J : It} {tn : Nat → Heap → Prop} {h : Heap} (I : Inv X pins σ H s) (old : ∀ b o, s.heap.get? b = some o → h.get? b = some o)
    (T : Turn X.prog X.w X.K tg J [s.heap.objs.size + 1, s.heap.objs.size] (s.heap.objs.size + 1) tn) (st : tn 0 h) (q : R J H) : PIE X pins σ tg R (.ref (s.heap.objs.size + 1)) { s with heap := h } := by
  refine ⟨_, _, tn, J, H, rfl, I.kept (t' := s.toks) old, T, st, fun b hb => ?_, q⟩
  have young : s.heap.objs.size ≤ b := by
    simp only [List.mem_cons, List.not_mem_nil, or_false] at hb
    rcases hb with rfl | rfl
    · exact Nat.le_succ _
    · exact Nat.le_refl _
  exact I.fpOk young (I.hok.fresh young)

/-! ### enumerate of a tuple -/
section
open AutoSeq1 (wpAny_loadPart')
theorem meets_enum_newT (l : Addr) (items : Array Value) (n : Nat) (dct : Option Addr) (sl : Array (Option Value)) :
    Meets (Builtin.«enumerate.__new__» ⟨[.type "enumerate", .ref l], []⟩) (fun _ R s => s.heap.get? l = some { cls := .type "tuple", dict := dct, data := .seq items n, slots := sl } ∧
      R (.ok (.ret (.ref (s.heap.push { cls := .type "tuple_iterator", data := .fields #[.ref l, .int 0 0] }).objs.size)))
        { s with heap := (s.heap.push { cls := .type "tuple_iterator", data := .fields #[.ref l, .int 0 0] }).push { cls := .type "enumerate", data := .fields #[.none, .bool false, .ref s.heap.objs.size, rawInt 0, .none, .none] } }) :=
  .of_wp fun prog w A R s h => by
    cases s with
    | mk hp g d tk os =>
      have cls := sub_enumerate
      have tup : Heap.IsTuple (Shared.heap ⟨hp, g, d, tk, os⟩) l items := ⟨_, h.1, rfl, n, rfl⟩
      wp_walk using wpAny_loadPart' h.1
      refine wpAny_stack_any fun st => wpAny_pure ?_
      split
      case h_1 c _ _ _ _ _ => cases (c == Value.type "enumerate") <;> (wp_walk using wpAny_loadPart' h.1, wpAny_pyIter_tuple tup; exact ⟨_, rfl, h.2⟩)
      all_goals (wp_walk using wpAny_loadPart' h.1, wpAny_pyIter_tuple tup; exact ⟨_, rfl, h.2⟩)
end
/-- the call lays the tuple's iterator, then the enumeration over it -/
theorem call_enum_tuple {prog : Program} {w : World} {A : Around} {E : Value → Shared → Prop} {s : Shared} {l : Addr} {items : Array Value} {Q : Value → Shared → Prop} (tup : s.heap.IsTuple l items)
    (q : ∀ h, IsEnum h (s.heap.objs.size + 1) s.heap.objs.size 0 .none → h.IsTupleIter s.heap.objs.size l 0 → (∀ b o, s.heap.get? b = some o → h.get? b = some o) → Q (.ref (s.heap.objs.size + 1)) { s with heap := h }) :
    wpAny (model prog w) A (call (.type "enumerate") [.ref l]) Q E s := by
  obtain ⟨⟨cls, dct, dat, sl⟩, at_l, ec, n, ed⟩ := tup
  cases (show cls = .type "tuple" from ec)
  cases (show dat = .seq items n from ed)
  refine callType_new F.called_enumerate (by decide) (F.typeCall_enumerate_1 _) (F.newCall_enumerate_1 _) (fun x => F.args_object_init_2 x _) F.entry_enumerate_new (meets_enum_newT l items n dct sl) ⟨at_l, ?_⟩
  generalize eh : s.heap.push { cls := .type "tuple_iterator", data := .fields #[.ref l, .int 0 0] } = h
  have size : h.objs.size = s.heap.objs.size + 1 := by rw [← eh]; exact Heap.size_push ..
  have over := Heap.get?_push_size h (o := { cls := .type "enumerate", data := .fields #[.none, .bool false, .ref s.heap.objs.size, rawInt 0, .none, .none] }) rfl
  rw [size] at over ⊢
  exact ⟨⟨_, over, rfl⟩, q _ over ⟨_, Heap.get?_push_of_some _ (eh ▸ Heap.get?_push_size _ rfl), rfl, rfl⟩ fun b o e => Heap.get?_push_of_some _ (eh ▸ Heap.get?_push_of_some _ e)⟩
/-- the tuple at a, each item in a new pair -/
def IteT (K : PySem.W.Frag) (a : Addr) : It :=
  ⟨fun i H => ∃ (xs : List V) (x : V), SqT K H a xs ∧ xs[i]? = some x, fun i H v H' => ∃ T x, v = .ref T ∧ H T = none ∧ H' = upd H T (.tup [.int (i : Nat), x]) ∧ ∀ xs, SqT K H a xs → xs[i]? = some x, fun i H => ∃ xs : List V, SqT K H a xs ∧ xs.length = i⟩
theorem turn_enumT {P : Program} {w : World} {K : PySem.W.Frag} {elts : List Expr} {kk : Nat} {tpos : Pos} (a e it : Addr) (hai : a ≠ it) (hae : a ≠ e) (hei : e ≠ it) :
    Turn P w K (.Tuple elts kk tpos) (IteT K a) [e, it] e (fun i h => (∃ old, IsEnum h e it ((i : Nat) : Int) old) ∧ h.IsTupleIter it a i) := by
  refine turn_walk (by simp) (fun i h ⟨⟨_, over⟩, o, at_it, _, dat⟩ b hb => ?_) (fun i h h' ⟨⟨old, over⟩, under⟩ same => ⟨⟨old, same e (by simp) _ over⟩, under.at fun o x => same it (by simp) o x⟩)
    (fun A i s Q E ⟨⟨_, over⟩, _⟩ q => wpAny_pyIter_enum over q) fun X i pins s σ H eP ew eK free I ⟨over, under⟩ gs => ?_
  · rcases List.mem_cons.mp hb with rfl | hb
    · exact ⟨_, over, fun _ z => nomatch z⟩
    · rw [List.mem_singleton.mp hb]
      exact ⟨o, at_it, fun _ z => nomatch dat.symm.trans z⟩
  subst eP ew eK
  obtain ⟨xs, sq⟩ : ∃ xs, SqT X.K H a xs := gs.elim (fun ⟨xs, _, sq, _⟩ => ⟨xs, sq⟩) fun ⟨xs, sq, _⟩ => ⟨xs, sq⟩
  obtain ⟨its, rel, tup, _⟩ := I.tuple sq
  have size : its.toArray.size = xs.length := List.size_toArray.trans rel.length.symm
  refine ⟨_, _, _, _, _, WalksT.enumerateD (Draws.tuple (A := X.A.in1) free it a hai its.toArray) e hei (by simp [hei, Ne.symm hae]) (by simp), ⟨over, under, tup⟩, fun h z => ⟨z.1, z.2.1⟩, fun ⟨ys, x, sq', ex⟩ => ?_, fun ⟨ys, sq', el⟩ => ?_⟩
  · cases I.tuple_inj sq' sq
    obtain ⟨u, eu, ru⟩ := rel.get ex
    refine ⟨size ▸ (List.getElem?_eq_some_iff.mp ex).1, fun us ⟨t, u', eu', e⟩ => ?_⟩
    subst e
    cases (show some u' = some u from (by simpa using eu'.symm : some u' = its[i]?).trans eu)
    exact ⟨[.int i, x], .cons ⟨t, rfl⟩ (.cons ru .nil), (by show 2 ≤ sizeLine; decide), fun T free => ⟨T, x, rfl, free, rfl, fun zs sz => I.tuple_inj sz sq ▸ ex⟩⟩
  · cases I.tuple_inj sq' sq
    exact el.symm.trans size.symm
def iEnumA (K : PySem.W.Frag) (ta : TA) : TI := fun σ H R => ta σ H fun vs H1 => ∃ a xs, vs = [.ref a] ∧ ((SqL K H1 a xs ∧ R (Ite K a) H1) ∨ (SqT K H1 a xs ∧ R (IteT K a) H1))
section
variable {X : Cx} {e a b : Expr} {f g : EF} {pos : Pos} {es : List Expr} {h : AF}
theorem pi_enumA {ta : TA} {p tpos : Pos} {elts : List Expr} {kk : Nat} (hg : Gl X "enumerate") (hm : X.mg "enumerate" = none) (ha : PA X [e] ta) (hs : starEach [e] X.env = [(false, eval e X.env)] := by rfl) :
    PI X (.Tuple elts kk tpos) (.Call (.Name "enumerate" p) [e] [] pos) (iEnumA X.K ta) := .mk fun pins s σ H R I h => by
  refine Call_ (ld_blt I hg hm boot_enumerate (PyProof.Rows.callWith_type1 (thn (ha.run pos pins s σ H _ I h) fun us s1 e => ?_) hs rfl))
  obtain ⟨_, H1, I1, rel, a, xs, rfl, q⟩ := e
  rw [Vals.ref1 rel]
  rcases q with ⟨sq, q⟩ | ⟨sq, q⟩
  · obtain ⟨_, _, pl, _⟩ := I1.list sq
    exact call_enumerate_list pl.isList fun h' over under _ old => wpAny_pyIter_enum over (pi_two I1 old (turn_enum a _ _) ⟨⟨_, over⟩, under, Nat.succ_ne_self _⟩ q)
  · obtain ⟨its, _, tup, _⟩ := I1.tuple sq
    have lt : a < s1.heap.objs.size := tup.lt
    exact call_enum_tuple (items := its.toArray) tup fun h' over under old => wpAny_pyIter_enum over (pi_two I1 old (turn_enumT a _ _ (Nat.ne_of_lt lt) (Nat.ne_of_lt (Nat.lt_succ_of_lt lt)) (Nat.succ_ne_self _)) ⟨⟨_, over⟩, under⟩ q)
def enumD (ds : List PyData) : List PyData := ds.mapIdx fun i d => .tuple [.int i, d]
def enumI (h : AF) : FF := fun ρ τ => (h ρ τ).bind fun r => match r.1 with
  | [.dat (.list ds)] => some (enumD ds, r.2.1, r.2.2)
  | [.dat (.tuple ds)] => some (enumD ds, r.2.1, r.2.2)
  | _ => none
theorem enumD_get {ds : List PyData} {i : Nat} {d : PyData} (h : (enumD ds)[i]? = some d) : ∃ x, ds[i]? = some x ∧ d = .tuple [.int i, x] := by
  unfold enumD at h
  rw [List.getElem?_mapIdx] at h
  cases e : ds[i]? with
  | none => rw [e] at h; cases h
  | some x =>
    rw [e] at h
    cases h
    exact ⟨x, rfl, rfl⟩
theorem enumD_length (ds : List PyData) : (enumD ds).length = ds.length := by unfold enumD; rw [List.length_mapIdx]
theorem di_enum {elts : List Expr} {kk : Nat} {tpos p : Pos} (hg : Gl X "enumerate") (hm : X.mg "enumerate" = none) (ha : DA X [e] h) (hs : starEach [e] X.env = [(false, eval e X.env)] := by rfl) :
    DI X (.Tuple elts kk tpos) (.Call (.Name "enumerate" p) [e] [] pos) false (enumI h) :=
  (pi_enumA hg hm ha hs).mono fun σ H R ⟨T, M0, H0, M, ρ, τ, items, ρ', τ', S, ef, k⟩ => by
    unfold enumI at ef
    cases e1 : h ρ τ with
    | none => rw [e1] at ef; cases ef
    | some r =>
      obtain ⟨ws, ρ1, τ1⟩ := r
      rw [e1] at ef
      simp only [Option.bind_some] at ef
      refine ⟨T, M0, H0, M, ρ, τ, ws, ρ1, τ1, S, e1, fun vs M' H' S' x r => ?_⟩
      split at ef
      · next ds =>
        cases ef
        cases r with
        | cons r1 r2 =>
          cases r2
          cases (show Rp M' H' _ (.list ds) from r1) with
          | @lst l1 xs _ e1 n1 q1 =>
            refine ⟨l1, xs, rfl, .inl ⟨SqL.of e1, k _ M' H' S' x ⟨fun M2 H2 L tr i d ed => ?_, fun M2 H2 L => ?_⟩⟩⟩
            · obtain ⟨x1, h1, rfl⟩ := enumD_get ed
              obtain ⟨v1, ev1, rv1⟩ := (RpAll.later L _ _ q1).get h1
              have k1 : SqL X.K H2 l1 xs := SqL.of (L.keep _ _ e1 n1)
              refine ⟨⟨xs, v1, k1, ev1⟩, ?_⟩
              rintro _ H3 ⟨p, a1, rfl, np, eh, f1⟩
              have z1 := f1 _ k1
              rw [ev1] at z1; cases z1
              exact zip_yld tr np eh (.int _) rv1
            · exact ⟨xs, SqL.of (L.keep _ _ e1 n1), by rw [enumD_length, q1.length]; exact Nat.le_refl _⟩
      · next ds =>
        cases ef
        cases r with
        | cons r1 r2 =>
          cases r2
          cases (show Rp M' H' _ (.tuple ds) from r1) with
          | @tup l1 _ xs _ e1 d1 n1 q1 =>
            refine ⟨l1, xs, rfl, .inr ⟨sqt e1, k _ M' H' S' x ⟨fun M2 H2 L tr i d ed => ?_, fun M2 H2 L => ?_⟩⟩⟩
            · obtain ⟨x1, h1, rfl⟩ := enumD_get ed
              obtain ⟨v1, ev1, rv1⟩ := (RpAll.later L _ _ q1).get h1
              have k1 : SqT X.K H2 l1 xs := sqt (L.keep _ _ e1 n1)
              refine ⟨⟨xs, v1, k1, ev1⟩, ?_⟩
              rintro _ H3 ⟨p, a1, rfl, np, eh, f1⟩
              have z1 := f1 _ k1
              rw [ev1] at z1; cases z1
              exact zip_yld tr np eh (.int _) rv1
            · exact ⟨xs, sqt (L.keep _ _ e1 n1), by rw [enumD_length, q1.length]⟩
      · cases ef

/-! ### t.index(x) -/
open PySem.SeqAt (shaped)
def ixOf (d : PyData) : List PyData → Option Nat
  | [] => none
  | z :: ds => if PyData.eqv z d = true then some 0 else (ixOf d ds).map (· + 1)
theorem ixOf_some {d : PyData} : ∀ {ds : List PyData} {j : Nat}, ixOf d ds = some j → (∃ z, ds[j]? = some z ∧ PyData.eqv z d = true) ∧ ∀ (m : Nat) (z' : PyData), m < j → ds[m]? = some z' → PyData.eqv z' d = false
  | [], j, h => by cases h
  | z :: ds, j, h => by
    unfold ixOf at h
    split at h
    · next e =>
      cases h
      exact ⟨⟨z, rfl, e⟩, fun m z' hm => by omega⟩
    · next e =>
      cases q : ixOf d ds with
      | none => rw [q] at h; cases h
      | some i =>
        rw [q] at h
        cases h
        obtain ⟨h1, h2⟩ := ixOf_some q
        refine ⟨h1, fun m z' hm hz => ?_⟩
        have hm : m < i + 1 := hm
        cases m with
        | zero => cases (Option.some.inj hz : z = z'); exact Bool.eq_false_iff.mpr e
        | succ m => exact h2 m z' (by omega) hz
def rIxT' (K : PySem.W.Frag) : V → List V → Hp → VK → Prop := fun x xs H Q => ∃ (a : Addr) (y : V) (d : PyData) (ds : List PyData) (j : Nat), x = V.ref a ∧ xs = [y] ∧ Dp K H (V.ref a) (.tuple ds) ∧ Dp K H y d ∧
  shaped (.list ds) = true ∧ shaped d = true ∧ ixOf d ds = some j ∧ Q (.int (j : Nat)) H
/-- the first equal item, told by the row of answers -/
theorem ixOf_row {d : PyData} : ∀ {ds : List PyData} {j : Nat}, ixOf d ds = some j → true ∈ ds.map (fun z => PyData.eqv z d) ∧ (ds.map fun z => PyData.eqv z d).idxOf true = j
  | [], _, h => by cases h
  | z :: ds, j, h => by
    unfold ixOf at h
    cases ez : PyData.eqv z d with
    | true =>
      rw [ez, if_pos rfl] at h
      cases h
      simp [ez]
    | false =>
      rw [ez, if_neg Bool.false_ne_true] at h
      obtain ⟨i, hi, rfl⟩ := Option.map_eq_some_iff.mp h
      obtain ⟨m, e⟩ := ixOf_row hi
      exact ⟨by rw [List.map_cons]; exact List.mem_cons_of_mem _ m, by rw [List.map_cons, ez, List.idxOf_cons, e]; rfl⟩
theorem mt_indexT (hu : X.A.units + 65 < cLine) : MtR X "tuple.index" (rIxT' X.K) := by
  rintro pins s σ H _ _ v us Q I rx rxs ⟨a, y, d, ds, j, rfl, rfl, dt, dy, sl, sd, first, q⟩
  cases rx
  obtain ⟨u, rfl, ru⟩ := vals1 rxs
  obtain ⟨m, at_j⟩ := ixOf_row first
  cases dt with
  | tup sq each =>
    obtain ⟨its, rel, tup, _⟩ := I.tuple sq
    obtain ⟨bs, ry⟩ := Dp.reads I d y u dy ru
    obtain ⟨as, rs⟩ := Dp.readsAll I ds _ its each rel
    have lay := SeqAt.canLay_of_shaped sl
    have eqs := SeqAt.items_eqAt (A := X.A) (vs := its.toArray) (show ReadsAll s.heap its.toArray.toList ds as from rs) ry lay (SeqAt.canLay_of_shaped sd) (room_in_shaped sd hu)
    have same : its.map (SeqAt.readOf s.heap) = ds := SeqAt.readsAll_map ds its as lay rs
    refine SeqAt.call_tuple_index (vs := its) (ks := ds.map fun z => PyData.eqv z d) (k := true) tup ⟨by rw [List.length_map, ← same, List.length_map], fun i h1 h2 => ?_⟩ m ⟨.int (j : Nat), H, I.tok _, ⟨_, by rw [at_j]⟩, q⟩
    have z := eqs its[i] (by simp)
    subst same
    simpa using z
def idxP (a b : PyData) : Option PyData := match a with
  | .tuple ds => if shaped (.list ds) = true ∧ shaped b = true then (ixOf b ds).map fun j => .int (j : Nat) else none
  | _ => none
def idxW := d2 idxP
/-- the value is a tuple without an attribute dict -/
def tyT (x : V) (H : Hp) : Prop := ∃ p o xs, x = .ref p ∧ H p = some (.frz o (.tup xs)) ∧ o.dict = none
def tBT (r : V → List V → Hp → VK → Prop) (to : TE) (t : TA) : TE := fun σ H Q => to σ H fun x H1 => tyT x H1 ∧ t σ H1 fun xs H2 => r x xs H2 Q
theorem pe_bmT {o : Expr} {to : TE} {t : TA} {name : Str} {apos cpos : Pos} {id : String} {r : V → List V → Hp → VK → Prop} (slot : Slot "tuple" name id) (hty : typeOf (.builtin id) = pure (.type "method_descriptor")) (hm : MtR X id r) (ho : PE X o to) (ha : PA X (e :: es) t)
    (hbase : attributeBase o name X.env (eval o X.env) = eval o X.env := by rfl)
    (hfew : ((backTo cpos (starEach (e :: es) X.env)).all (fun x => !x.1) && (backToKw cpos (keywordEach [] X.env)).all (fun x => x.1.isSome) && decide ((e :: es).length + ([] : List Keyword).length + (if ([] : List Keyword).isEmpty then 0 else 1) < 30)) = true := by rfl)
    (hline : (apos.endLine == cpos.line) = true := by rfl) (hs : starEach (e :: es) X.env = (false, eval e X.env) :: starEach es X.env := by rfl) (hplain : (backTo cpos (starEach es X.env)).any (·.1) = false := by rfl) :
    PE X (.Call (.Attribute o name apos) (e :: es) [] cpos) (tBT r to t) := by
  refine ⟨fun pins s σ H Q I h => wpAny_Call_method_late hbase hfew hline rfl (thn (ho.run pins s σ H _ I h) fun v s1 ⟨x, H1, I1, r1, ⟨p, ob, ys, ex, hp, dn⟩, q1⟩ => ?_)⟩
  subst ex
  cases r1
  obtain ⟨g1, z, its, rv, ob2, g2, c2, d2⟩ := I1.hok p _ hp
  have hA := ha.run cpos pins s1 σ H1 _ I1 q1
  refine ⟨"tuple", id, PySem.F.plainAttrs_tuple, slot, hty, ⟨ob2, g2, c2⟩, fun a ea => by cases ea; exact ⟨ob, g1, dn⟩, ?_⟩
  rw [hs] at hA ⊢
  refine Calls.callWith_builtin (by show (false || (backTo cpos (starEach es X.env)).any (·.1)) = false; rw [hplain] <;> rfl) (Calls.evalArgs_plain ?_)
  exact thn hA fun us s2 ⟨vs, H2, I2, r2, q2⟩ => hm pins s2 σ H2 (.ref p) vs (.ref p) us Q I2 rfl r2 q2
theorem de_index (h : PE X e (tBT (rIxT' X.K) (tDB X f) (tCons (tDB X g) tNil))) : DE X e (op2 idxW f g) := h.mono fun σ H Q hh => by
  have key : OpP X (fun x y H Q => rIxT' X.K x [y] H Q) idxP := fun T M H a b d v1 v2 Q e tr r1 r2 k => by
    unfold idxP at e
    split at e
    · next ds =>
      split at e
      · next hs =>
        cases ej : ixOf b ds with
        | none => rw [ej] at e; cases e
        | some j =>
          rw [ej] at e
          cases e
          cases (show Rp M H v1 (.tuple ds) from r1) with
          | @tup l _ xs _ e1 d1 n1 q1 => exact ⟨l, v2, b, ds, j, rfl, rfl, Rp.dp (.tuple ds) _ (Rp.tup e1 d1 n1 q1), r2.dp, hs.1, hs.2, ej, k _ H (Gr.refl H) (.int _)⟩
      · cases e
    · cases e
  obtain ⟨T, M0, H0, M, ρ, τ, w, ρ', τ', S, ef, k⟩ := hh
  unfold op2 at ef
  cases e1 : f ρ τ with
  | none => rw [e1] at ef; cases ef
  | some p =>
    obtain ⟨w1, ρ1, τ1⟩ := p
    rw [e1] at ef
    simp only [Option.bind_some] at ef
    cases e2 : g ρ1 τ1 with
    | none => rw [e2] at ef; cases ef
    | some p =>
      obtain ⟨w2, ρ2, τ2⟩ := p
      rw [e2] at ef
      simp only [Option.bind_some] at ef
      cases e3 : idxW w1 w2 with
      | none => rw [e3] at ef; cases ef
      | some w' =>
        rw [e3] at ef
        cases ef
        refine ⟨T, M0, H0, M, ρ, τ, w1, ρ1, τ1, S, e1, fun v1 M1 H1 S1 x1 r1 => ⟨?_, ?_⟩⟩
        · cases w1 with
          | tape => cases e3
          | dct _ => cases e3
          | dat d1 =>
            cases w2 with
            | tape => cases e3
            | dct _ => cases e3
            | dat d2 =>
              cases d1 with
              | tuple ds =>
                cases (show Rp M1 H1 v1 (.tuple ds) from r1) with
                | tup e1 d1 n1 q1 => exact ⟨_, _, _, rfl, e1, d1⟩
              | _ => cases e3
        · refine ⟨T, M0, H0, M1, ρ1, τ1, w2, _, _, S1, e2, fun v2 M2 H2 S2 x2 r2 => ?_⟩
          exact key.d T M2 H2 w1 w2 _ v1 v2 Q e3 S2.trk S2.mt (r1.ex S1.mt x2) r2 fun v H' gr rr => k v M2 H' (S2.grow gr) ((x1.trans x2).trans gr.ex) rr

/-! ### x.insert(k, e) -/
def insS (i : Nat) (f g : EF) : SF := fun ρ τ => (ownAt ρ i).bind fun _ => (f ρ τ).bind fun r => (g r.2.1 r.2.2).bind fun q => (ownAt q.2.1 i).bind fun ds => match r.1, q.1 with
  | .dat (.int k), .dat d => if 0 ≤ k ∧ k < 9223372036854775808 ∧ ds.length < 16777216 then some (.nx (q.2.1.set i (some (.own (ds.take k.toNat ++ [d] ++ ds.drop k.toNat)))) q.2.2) else none
  | _, _ => none
def rIns : V → List V → Hp → VK → Prop := fun x vs H Q => ∃ (l : Addr) (xs : List V) (i : Int) (y : V), x = .ref l ∧ vs = [.int i, y] ∧ H l = some (.lst xs) ∧ xs.length < sizeLine ∧ 0 ≤ i ∧ i < 2 ^ 63 ∧
    Q .non (upd H l (.lst (xs.take i.toNat ++ [y] ++ xs.drop i.toNat)))
theorem mt_ins : MtR X "list.insert" rIns := mt_insert
theorem ds_insert {st : Stmt} {i : Nat} (h : PS X st (tDrop (tBM X.K "list" rIns (tVar i) (tCons (tD X f) (tCons (tD X g) tNil))))) : DS X st (insS i f g) := h.mono fun D σ H hh => by
  obtain ⟨T, M0, H0, M, ρ, τ, o, S, ef, w⟩ := hh
  unfold insS at ef
  cases e0 : ownAt ρ i with
  | none => rw [e0] at ef; cases ef
  | some ds0 =>
    rw [e0] at ef
    simp only [Option.bind_some] at ef
    cases e1 : f ρ τ with
    | none => rw [e1] at ef; cases ef
    | some r =>
      obtain ⟨w1, ρ1, τ1⟩ := r
      rw [e1] at ef
      simp only [Option.bind_some] at ef
      cases e2 : g ρ1 τ1 with
      | none => rw [e2] at ef; cases ef
      | some q =>
        obtain ⟨w2, ρ2, τ2⟩ := q
        rw [e2] at ef
        simp only [Option.bind_some] at ef
        cases e3 : ownAt ρ2 i with
        | none => rw [e3] at ef; cases ef
        | some ds =>
          rw [e3] at ef
          simp only [Option.bind_some] at ef
          obtain ⟨l, xs0, ev, el, _⟩ := S.ownList e0
          refine ⟨_, ev, .inl ⟨rfl, _, SqL.of el⟩, T, M0, H0, M, ρ, τ, w1, ρ1, τ1, S, e1, fun v1 M1 H1 S1 x1 r1 => ?_⟩
          refine ⟨T, M0, H0, M1, ρ1, τ1, w2, ρ2, τ2, S1, e2, fun v2 M2 H2 S2 x2 r2 => ?_⟩
          obtain ⟨l', xs, ev', el', q', _⟩ := S2.ownList e3
          rw [ev] at ev'
          cases ev'
          split at ef
          · next k d =>
            split at ef
            · next hl =>
              cases ef
              cases (show Rp M1 H1 v1 _ from r1)
              obtain ⟨S3, L⟩ := S2.change (ownAt_some e3) ev (((q'.take k.toNat).append (.cons r2 .nil)).append (q'.drop k.toNat))
              exact ⟨_, xs, k, v2, rfl, rfl, el', by rw [q'.length]; exact sll hl.2.2, hl.1, by omega, w σ M2 _ S3 (((x1.trans x2).later S.mt).trans L)⟩
            · cases ef
          · cases ef

/-! ### xs[::-1] -/
def revP : PyData → Option PyData
  | .list ds => some (.list ds.reverse)
  | .tuple ds => some (.tuple ds.reverse)
  | _ => none
def revW : W → Option W
  | .dat d => (revP d).map .dat
  | _ => none
end
end ND

set_option Elab.async false
set_option linter.all false
set_option maxRecDepth 100000
set_option maxHeartbeats 4000000
/-! ND9: reversed slices, sums, greatest ones. -/
namespace ND
open PySem PySem.Spec L2
open PyProof.Rows hiding St

/-! ### xs[::-1] -/
theorem rev_pick (xs : List Value) : (List.range xs.length).filterMap (fun (k : Nat) => xs[(((xs.length : Int) - 1) + (k : Int) * (-1)).toNat]?) = xs.reverse := by
  have key : ∀ n, n ≤ xs.length → (List.range n).filterMap (fun (k : Nat) => xs[(((xs.length : Int) - 1) + (k : Int) * (-1)).toNat]?) = xs.reverse.take n := by
    intro n
    induction n with
    | zero => intro _; rfl
    | succ n ih =>
      intro hn
      have e : (((xs.length : Int) - 1) + (n : Int) * (-1)).toNat = xs.length - 1 - n := by omega
      have hlt : xs.length - 1 - n < xs.length := by omega
      rw [List.range_succ, List.filterMap_append, ih (by omega), List.take_add_one]
      congr 1
      rw [List.getElem?_reverse (by omega)]
      simp only [List.filterMap_cons, List.filterMap_nil, e]
      rw [List.getElem?_eq_getElem hlt]
      rfl
  have := key xs.length (Nat.le_refl _)
  rw [this, List.take_of_length_le (by rw [List.length_reverse]; exact Nat.le_refl _)]
section
variable {prog : Program} {w : World} {A : Around} {E : Value → Shared → Prop} {s : Shared}
theorem sliceApplied_rev {sl : Addr} {vl vu vs : Value} {n : Nat} {Q : Int × Int × Nat → Shared → Prop} (hs : s.heap.IsSliceOf sl vl vu vs) (pl : IsPart vl none) (pu : IsPart vu none) (ps : IsPart vs (some (-1)))
    (h : Q ((n : Int) - 1, -1, n) s) : wpAny (model prog w) A (Builtin.Slice.sliceApplied (.ref sl) (pure (n : Int))) Q E s := by
  obtain ⟨os, hos, hcs, hds⟩ := id hs
  unfold Builtin.Slice.sliceApplied Builtin.Slice.sliceFields
  refine wpAny_bind (wpAny_bind (wpAny_field hos hds (x := vl) rfl (wpAny_bind (wpAny_field hos hds (x := vu) rfl (wpAny_bind (wpAny_field hos hds (x := vs) rfl (wpAny_pure ?_)))))))
  refine wpAny_bind (HT.slicePart_ ps ?_)
  show wpAny _ _ (if ((-1 : Int) == 0) = true then _ else _) _ _ s
  rw [if_neg (by decide)]
  refine wpAny_bind (HT.slicePart_ pl (wpAny_bind (HT.slicePart_ pu (wpAny_bind (wpAny_pure ?_)))))
  have e : Builtin.Slice.slicePlaces ((n : Int) - 1) (-1) (-1) = n := by
    unfold Builtin.Slice.slicePlaces
    rw [if_neg (by decide)]
    simp only [Int.neg_neg, Int.ediv_one]
    split <;> omega
  show wpAny _ _ (pure ((n : Int) - 1, (-1 : Int), Builtin.Slice.slicePlaces ((n : Int) - 1) (-1) (-1))) _ _ s
  rw [e]
  exact wpAny_pure h
/-- t[::-1] by its code: the items from the last one down, in a new tuple -/
theorem tuple_rev_code {t sl : Addr} {its : List Value} {vl vu vs : Value} {Q : Value → Shared → Prop} (tup : IsTup s.heap t its.toArray) (hs : s.heap.IsSliceOf sl vl vu vs) (pl : IsPart vl none) (pu : IsPart vu none) (ps : IsPart vs (some (-1))) (few : its.length ≤ sizeLine)
    (q : Q (.ref s.heap.objs.size) { s with heap := s.heap.push { cls := .type "tuple", data := .seq its.reverse.toArray } }) : wpAny (model prog w) A (Builtin.«tuple.__getitem__» ⟨[.ref t, .ref sl], []⟩) (fun f s' => ∃ v, f = .done (.ret v) ∧ Q v s') E s := by
  have slice : s.TypeIs (.ref sl) "slice" := let ⟨o, e, c, _⟩ := hs; ⟨o, e, c⟩
  refine wpAny_bind (m := Builtin.Tuple.tupleItemsOf (.ref t)) (tupleItemsOf_ tup (wpAny_bind (wpAny_typeOf slice ?_)))
  rw [if_pos (show (Value.type "slice" == Value.type "slice") = true by decide)]
  refine wpAny_bind (sliceApplied_rev hs pl pu ps ?_)
  -- it is not the whole tuple as it stands, since it goes down
  refine wpAny_ite_false ?_ ?_
  · simp
  have down : ((List.range its.toArray.size).filterMap fun (k : Nat) => its.toArray[(((its.toArray.size : Int) - 1) + (k : Int) * (-1)).toNat]?) = its.reverse := by
    rw [List.size_toArray, ← rev_pick its]
    exact congrArg (List.filterMap · _) (funext fun k => List.getElem?_toArray ..)
  rw [down]
  refine wpAny_bind (m := Builtin.Tuple.tupleExact its.reverse.toArray) (wpAny_newObj_type ?_ (show its.reverse.toArray.size ≤ sizeLine by rw [List.size_toArray, List.length_reverse]; exact few))
  exact wpAny_pure ⟨_, rfl, q⟩
theorem getItem_tuple_rev {t sl : Addr} {its : List Value} {vl vu vs : Value} {Q : Value → Shared → Prop} (tup : IsTup s.heap t its.toArray) (hs : s.heap.IsSliceOf sl vl vu vs) (pl : IsPart vl none) (pu : IsPart vu none) (ps : IsPart vs (some (-1))) (few : its.length ≤ sizeLine)
    (q : Q (.ref s.heap.objs.size) { s with heap := s.heap.push { cls := .type "tuple", data := .seq its.reverse.toArray } }) : wpAny (model prog w) A (getItem (.ref t) (.ref sl)) Q E s := by
  have code := wpAny_call_entry (prog := prog) (w := w) (A := A) (E := E) PyProof.Rows.slot_tuple_getitem tup.typeIs entry_tuple_getitem (tuple_rev_code tup hs pl pu ps few q) (args_tuple_getitem _ _)
  unfold getItem
  exact wpAny_holding (wpAny_bind (wpAny_sequenceKey tup.typeIs (by decide) (wpAny_bind (wpAny_callSpecial?_slot (name := Str.ofString "__getitem__") tup.typeIs PyProof.Rows.slot_tuple_getitem (wpAny_mono code (fun _ _ z => wpAny_pure z) fun _ _ z => z)))))
end
/-! ### x[lo:hi:step] -/
section
variable {X : Cx} {e a b : Expr} {f g : EF} {pos : Pos} {es : List Expr} {h : AF}
/-- a part of a slice that is always the same -/
def PartIs (X : Cx) (e : Option Expr) (o : Option Int) : Prop := ∀ pins (s : Shared) σ H, Inv X pins σ H s → wpAny (model X.prog X.w) X.A (evalPart e X.env) (fun u s' => Inv X pins σ H s' ∧ IsPart u o) X.xe s
theorem PO.is {e : Option Expr} {o : Option Int} {t : TO} (h : PO X e t) (all : ∀ σ H Q, Q o H → t σ H Q) : PartIs X e o := fun pins s σ H I =>
  thn (h.run pins s σ H (fun o' H' => o' = o ∧ H' = H) I (all σ H _ ⟨rfl, rfl⟩)) fun u s' ⟨_, _, I', p, e1, e2⟩ => ⟨e2 ▸ I', e1 ▸ p⟩
theorem part_none : PartIs X none none := PO.is po_none fun _ _ _ q => q
theorem part_down {k : Nat} {p1 p2 : Pos} : PartIs X (some (.UnaryOp .USub (.Constant (.int 1) k p1) p2)) (some (-1)) :=
  PO.is (t := tPart (tUn (rU fun i => .int (-i)) (tC (.int 1)))) (po_some (pe_un un_neg pe_int)) fun _ _ _ q => ⟨1, rfl, -1, rfl, q⟩
/-- what an object answers to the slice lo:hi:st -/
def Sl3 (X : Cx) (lo hi st : Option Int) (r : V → Hp → VK → Prop) : Prop :=
  ∀ pins (s : Shared) σ H (x : V) (v vl vu vs : Value) (sl : Addr) (Q : VK), Inv X pins σ H s → RelV x v → s.heap.IsSliceOf sl vl vu vs → IsPart vl lo ∧ IsPart vu hi ∧ IsPart vs st → r x H Q →
    ∃ T id, typeLookup (.type T) "__getitem__" = pure (some (.builtin id)) ∧ s.TypeIs v T ∧ wpAny (model X.prog X.w) X.A (getItem v (.ref sl)) (EP X pins σ Q) X.xe s
theorem pe_slice3 {lo hi st : Option Int} {r : V → Hp → VK → Prop} {te : TE} {el eh : Option Expr} {et : Expr} {p2 : Pos} (answer : Sl3 X lo hi st r) (he : PE X e te) (hl : PartIs X el lo) (hh : PartIs X eh hi) (hs : PartIs X (some et) st) : PE X (.Subscript e (.Slice el eh (some et) p2) pos) (tUn r te) := by
  constructor
  intro pins s σ H Q I h
  refine Subscript_ (thn (he.run pins s σ H _ I h) fun v s1 ⟨x, H1, I1, rx, h1⟩ => wpAny_Slice (thn (hl pins s1 σ H1 I1) fun vl s2 ⟨I2, pl⟩ => thn (hh pins s2 σ H1 I2) fun vu s3 ⟨I3, pu⟩ => thn (hs pins s3 σ H1 I3) fun vs s4 ⟨I4, ps⟩ => ?_))
  have J : Inv X pins σ H1 { s4 with heap := s4.heap.push { cls := .type "slice", data := .fields #[vl, vu, vs] } } := I4.kept (t' := s4.toks) fun _ _ => Heap.get?_push_of_some _
  obtain ⟨T, id, slot, ty, run⟩ := answer pins _ σ H1 x v vl vu vs s4.heap.objs.size _ J rx (Heap.IsSliceOf.new _ vl vu vs) ⟨pl, pu, ps⟩ h1
  exact tail_any (ops := [v, .ref s4.heap.objs.size]) ty slot run (by with_unfolding_all rfl)
/-- a list or a tuple, turned about -/
def rRevA (K : PySem.W.Frag) (x : V) (H : Hp) (Q : VK) : Prop := ∃ a xs, x = .ref a ∧ ((SqL K H a xs ∧ ∀ p, H p = none → Q (.ref p) (upd H p (.lst xs.reverse))) ∨ (SqT K H a xs ∧ NewT H xs.reverse Q))
theorem sl_revA : Sl3 X none none (some (-1)) (rRevA X.K) := by
  rintro pins s σ H _ _ vl vu vs sl Q I rx hs ⟨pl, pu, ps⟩ ⟨a, xs, rfl, q⟩
  cases rx
  rcases q with ⟨sq, q⟩ | ⟨sq, q⟩
  · obtain ⟨its, rel, pl', few⟩ := I.list sq
    refine ⟨"list", _, PySem.slot_list_getitem.lookup, pl'.isList.typeIs, wpAny_getItem_list_slice pl'.isList hs pl pu ps (by decide) ?_ (by rw [List.size_toArray, ← rel.length]; exact few)⟩
    rw [PySem.W.krv_pick]
    have new : ObjOk X.prog X.w (upd H s.heap.objs.size (.lst xs.reverse)) (s.heap.push { cls := .type "list", data := .seq its.reverse.toArray }) s.heap.objs.size (.lst xs.reverse) := ⟨by rw [List.length_reverse]; exact few, _, 0, rel.reverse, Heap.get?_push_size _ rfl⟩
    exact ⟨.ref _, _, I.laid (t' := s.toks) (fun _ _ => Heap.get?_push_of_some _) (Nat.le_refl _) new, rfl, q _ (I.hok.fresh (Nat.le_refl _))⟩
  · obtain ⟨its, rel, tup, few⟩ := I.tuple sq
    exact ⟨"tuple", _, PyProof.Rows.slot_tuple_getitem.lookup, tup.typeIs, getItem_tuple_rev tup hs pl pu ps (rel.length ▸ few) (new_tup I rel.reverse (by rw [List.length_reverse]; exact few) q)⟩
def tRevA (K : PySem.W.Frag) (te : TE) : TE := tUn (rRevA K) te
theorem pe_revA {te : TE} {k : Nat} {p1 p2 p3 : Pos} (he : PE X e te) : PE X (.Subscript e (.Slice none none (some (.UnaryOp .USub (.Constant (.int 1) k p1) p2)) p3) pos) (tRevA X.K te) := pe_slice3 sl_revA he part_none part_none part_down
theorem de_rev {k : Nat} {p1 p2 p3 : Pos} (he : DB X e f) : DE X (.Subscript e (.Slice none none (some (.UnaryOp .USub (.Constant (.int 1) k p1) p2)) p3) pos) (un1 revW f) :=
  (pe_revA he).mono fun σ H Q hh => un1_td (fun T M H w1 w v1 Q ew tr mt r k => by
    unfold revW at ew
    split at ew
    · next d =>
      unfold revP at ew
      split at ew
      · cases ew
        obtain ⟨a, xs, rfl, ea, _, q⟩ := r
        exact ⟨a, xs, rfl, .inl ⟨SqL.of ea, fun p np => k _ _ (Gr.upd np) (Rp.lst upd_same (fun m => tr p m np) (RpAll.later (Gr.upd np).later _ _ q.reverse))⟩⟩
      · next ds =>
        cases ew
        cases (show Rp M H v1 (.tuple ds) from r) with
        | tup ea dn n q => exact ⟨_, _, rfl, .inr ⟨sqt ea, fun p o np dn => k _ _ (Gr.upd np) (Rp.tup upd_same dn (fun m => tr p m np) (RpAll.later (Gr.upd np).later _ _ q.reverse))⟩⟩
      · cases ew
    · cases ew) hh

/-! ### sum, max, min of whole numbersOf -/
def intsOf : List PyData → Option (List Int)
  | [] => some []
  | .int b :: ds => (intsOf ds).map fun bs => b :: bs
  | _ :: _ => none
theorem intsOf_map : ∀ {ds : List PyData} {bs : List Int}, intsOf ds = some bs → ds = bs.map PyData.int
  | [], _, h => by cases h; rfl
  | d :: ds, bs, h => by
    cases d with
    | int b =>
      cases q : intsOf ds with
      | none => rw [show intsOf (.int b :: ds) = (intsOf ds).map fun bs => b :: bs from rfl, q] at h; cases h
      | some cs =>
        rw [show intsOf (.int b :: ds) = (intsOf ds).map fun bs => b :: bs from rfl, q] at h
        cases h
        rw [intsOf_map q]
        rfl
    | _ => cases h
theorem ints_of (ns : List Int) : intsOf (ns.map PyData.int) = some ns := by
  induction ns with
  | nil => rfl
  | cons n ns ih =>
    show (intsOf (ns.map PyData.int)).map (fun bs => n :: bs) = _
    rw [ih]
    rfl
/-- the iterator of a list or tuple of whole numbersOf -/
theorem walk_ints {pins : List (Addr × Obj)} {σ : St} {H : Hp} {s : Shared} {l : Addr} {ns : List Int} {Q : Value → Shared → Prop} {E : Value → Shared → Prop} (hc : X.calm = true) (I : Inv X pins σ H s) (hs : SqL X.K H l (ns.map V.int) ∨ SqT X.K H l (ns.map V.int))
    (h : ∀ (s₂ : Shared) (J : Addr) (fp wr : List Addr) (P : Nat → Value → Prop) (St : Nat → Heap → Prop), Walks X.prog X.w X.A.in1 J fp wr ns.length P St → St 0 s₂.heap → (∀ b ∈ fp, b < s₂.heap.objs.size) → (∀ (i : Nat) v, P i v → ∃ t n, v = .int n t ∧ ns[i]? = some n) →
      (∀ h' tk, (∀ b o, b ∉ wr → s₂.heap.get? b = some o → h'.get? b = some o) → Inv X pins σ H { s₂ with heap := h', toks := tk }) → Q (.ref J) s₂) : wpAny (model X.prog X.w) X.A.in1 (pyIter (.ref l)) Q E s := by
  have fin : ∀ (its : List Value) (o : Obj), Vals (ns.map V.int) its → l < s.heap.objs.size → (∀ v : Value, o.data ≠ .cell v) → (∀ (i : Nat) v, its.toArray[i]? = some v → ∃ t n, v = .int n t ∧ ns[i]? = some n) ∧ its.toArray.size = ns.length ∧
      (∀ h' tk, (∀ b u, b ∉ [s.heap.objs.size] → (s.heap.push o).get? b = some u → h'.get? b = some u) → Inv X pins σ H { s with heap := h', toks := tk }) := fun its o rv hl _ => by
    refine ⟨fun i v hv => ?_, by rw [List.size_toArray, ← rv.length, List.length_map], fun h' tk hk => I.kept fun b u eb => hk b u (fun z => ?_) (Heap.get?_push_of_some _ eb)⟩
    · have hv' : its[i]? = some v := by simpa using hv
      have hi : i < ns.length := by
        have := (List.getElem?_eq_some_iff.mp hv').1
        rw [← rv.length, List.length_map] at this
        exact this
      obtain ⟨u, hu, t, eu⟩ := rv.get (i := i) (x := .int ns[i]) (by rw [List.getElem?_map, List.getElem?_eq_getElem hi]; rfl)
      rw [hv'] at hu
      cases hu
      exact ⟨t, ns[i], eu, List.getElem?_eq_getElem hi⟩
    · have e : b = s.heap.objs.size := by simpa using z
      rw [e] at eb
      exact absurd (Heap.lt_size eb) (Nat.lt_irrefl _)
  rcases hs with hs | hs
  · obtain ⟨its, rv, pl, _⟩ := I.list hs
    obtain ⟨f1, f2, f3⟩ := fin its { cls := .type "list_iterator", data := .fields #[.ref l, .int 0 0] } rv pl.lt (fun v z => nomatch z)
    refine wpAny_pyIter_list pl.isList (h _ _ _ _ _ _ (f2 ▸ Walks.list (A := X.A.in1) (I.ok.hd hc) s.heap.objs.size l (Nat.ne_of_lt pl.lt) its.toArray) ⟨⟨_, Heap.get?_push_size _ rfl, rfl, rfl⟩, pl.isList.push _⟩ (fun b hb => ?_) f1 f3)
    have e' : b = s.heap.objs.size ∨ b = l := by simpa using hb
    rw [Heap.size_push]
    rcases e' with z | z
    · rw [z]; exact Nat.lt_succ_self _
    · rw [z]; exact Nat.lt_succ_of_lt pl.lt
  · obtain ⟨its, rv, pl, _⟩ := I.tuple hs
    have pl' : s.heap.IsTuple l its.toArray := pl
    obtain ⟨f1, f2, f3⟩ := fin its { cls := .type "tuple_iterator", data := .fields #[.ref l, .int 0 0] } rv pl.lt (fun v z => nomatch z)
    refine wpAny_pyIter_tuple pl' (h _ _ _ _ _ _ (f2 ▸ Walks.tuple (A := X.A.in1) (I.ok.hd hc) s.heap.objs.size l (Nat.ne_of_lt pl.lt) its.toArray) ⟨⟨_, Heap.get?_push_size _ rfl, rfl, rfl⟩, ?_⟩ (fun b hb => ?_) f1 f3)
    · have e' : b = s.heap.objs.size ∨ b = l := by simpa using hb
      rw [Heap.size_push]
      rcases e' with z | z
      · rw [z]; exact Nat.lt_succ_self _
      · rw [z]; exact Nat.lt_succ_of_lt pl.lt
    · obtain ⟨o, ho, r⟩ := pl'
      exact ⟨o, Heap.get?_push_of_some _ ho, r⟩
def rSumP (K : PySem.W.Frag) : List V → Hp → VK → Prop := fun vs H Q => ∃ (a : Addr) (ns : List Int), vs = [V.ref a] ∧ (SqL K H a (ns.map V.int) ∨ SqT K H a (ns.map V.int)) ∧ Q (.int ns.sum) H
theorem getD_of {ns : List Int} {i : Nat} {n : Int} (h : ns[i]? = some n) : ns.getD i 0 = n := by rw [List.getD_eq_getElem?_getD, h]; rfl
theorem preSum_list (ns : List Int) : ∀ j, j ≤ ns.length → preSum (fun i => ns.getD i 0) j = (ns.take j).sum
  | 0, _ => by simp [preSum]
  | j + 1, h => by
    have e : ns[j]? = some ns[j] := List.getElem?_eq_getElem (show j < ns.length by omega)
    rw [preSum, preSum_list ns j (by omega), sum_take e, getD_of e]
theorem cr_sumP (hc : X.calm = true) : CallR X (.builtin "sum") (rSumP X.K) := by
  rintro pins s σ H _ us Q I r ⟨a, ns, rfl, hs, q⟩
  rw [Vals.ref1 r]
  refine call_sum_walkG (walk_ints hc I hs fun s₂ J fp wr P St W st hfp hP hI => ⟨J, fp, wr, ns.length, P, St, fun i => ns.getD i 0, rfl, W, st, hfp, fun i v hv => ?_, fun h' tk t' hk => ?_⟩)
  · obtain ⟨t, n, rfl, hn⟩ := hP i v hv
    exact ⟨t, by rw [show (fun i => ns.getD i 0) i = n from getD_of hn]⟩
  · refine ⟨.int ns.sum, H, hI h' tk hk, ⟨t', ?_⟩, q⟩
    rw [preSum_list ns ns.length (Nat.le_refl _), List.take_length]
def sumF : List W → Option W
  | [.dat (.list ds)] => (intsOf ds).map fun ns => .dat (.int ns.sum)
  | [.dat (.tuple ds)] => (intsOf ds).map fun ns => .dat (.int ns.sum)
  | _ => none
/-- a list or tuple of whole numbersOf, taken in -/
theorem rb_ints {C : Cf} {K : PySem.W.Frag} {M : MS} {H : Hp} {ns : List Int} {v : V} (h : RB C M H (.dat (.list (ns.map .int))) v ∨ RB C M H (.dat (.tuple (ns.map .int))) v) : ∃ a, v = .ref a ∧ (SqL K H a (ns.map V.int) ∨ SqT K H a (ns.map V.int)) := by
  rcases h with ⟨a, xs, rfl, ea, _, q⟩ | h
  · have := q.int_inv
    subst this
    exact ⟨a, rfl, .inl (SqL.of ea)⟩
  · cases (show Rp M H v (.tuple (ns.map .int)) from h) with
    | tup ea dn n q =>
      have := q.int_inv
      subst this
      exact ⟨_, rfl, .inr (sqt ea)⟩
theorem cd_ints {r : List V → Hp → VK → Prop} {G : List Int → Option Int} {F : List W → Option W} (hr : ∀ H a ns m Q, G ns = some m → (SqL X.K H a (ns.map V.int) ∨ SqT X.K H a (ns.map V.int)) → Q (V.int m) H → r [.ref a] H Q)
    (hF : ∀ ws w, F ws = some w → ∃ ns m, G ns = some m ∧ w = .dat (.int m) ∧ (ws = [.dat (.list (ns.map .int))] ∨ ws = [.dat (.tuple (ns.map .int))])) : CallD X r F := fun T M H ws w vs Q e tr mt rr k => by
  obtain ⟨ns, m, hG, rfl, hw⟩ := hF ws w e
  rcases hw with rfl | rfl
  · cases rr with
    | cons r1 r2 =>
      cases r2
      obtain ⟨a, rfl, hs⟩ := rb_ints (K := X.K) (.inl r1)
      exact hr H a ns m Q hG hs (k _ H (Gr.refl H) (Rp.int _))
  · cases rr with
    | cons r1 r2 =>
      cases r2
      obtain ⟨a, rfl, hs⟩ := rb_ints (K := X.K) (.inr r1)
      exact hr H a ns m Q hG hs (k _ H (Gr.refl H) (Rp.int _))
theorem intsF {G : List Int → Option Int} {ws : List W} {w : W} (h : (match ws with
    | [.dat (.list ds)] => (intsOf ds).bind fun ns => (G ns).map fun m => W.dat (.int m)
    | [.dat (.tuple ds)] => (intsOf ds).bind fun ns => (G ns).map fun m => W.dat (.int m)
    | _ => none) = some w) : ∃ ns m, G ns = some m ∧ w = .dat (.int m) ∧ (ws = [.dat (.list (ns.map .int))] ∨ ws = [.dat (.tuple (ns.map .int))]) := by
  split at h
  · next ds =>
    cases e : intsOf ds with
    | none => rw [e] at h; cases h
    | some ns =>
      rw [e] at h
      simp only [Option.bind_some] at h
      cases e2 : G ns with
      | none => rw [e2] at h; cases h
      | some m =>
        rw [e2] at h
        cases h
        exact ⟨ns, m, e2, rfl, .inl (by rw [intsOf_map e])⟩
  · next ds =>
    cases e : intsOf ds with
    | none => rw [e] at h; cases h
    | some ns =>
      rw [e] at h
      simp only [Option.bind_some] at h
      cases e2 : G ns with
      | none => rw [e2] at h; cases h
      | some m =>
        rw [e2] at h
        cases h
        exact ⟨ns, m, e2, rfl, .inr (by rw [intsOf_map e])⟩
  · cases h
def intsW (G : List Int → Option Int) : List W → Option W := fun ws => match ws with
    | [.dat (.list ds)] => (intsOf ds).bind fun ns => (G ns).map fun m => W.dat (.int m)
    | [.dat (.tuple ds)] => (intsOf ds).bind fun ns => (G ns).map fun m => W.dat (.int m)
    | _ => none
def sumG (ns : List Int) : Option Int := some ns.sum
theorem cd_sum : CallD X (rSumP X.K) (intsW sumG) := cd_ints (G := sumG) (fun H a ns m Q e hs q => by cases e; exact ⟨a, ns, rfl, hs, q⟩) fun ws w h => intsF h
/-- max, min -/
def maxG : List Int → Option Int
  | [] => none
  | n :: ns => some (ns.foldl (fun m k => if m < k then k else m) n)
def minG : List Int → Option Int
  | [] => none
  | n :: ns => some (ns.foldl (fun m k => if k < m then k else m) n)
theorem argBest_max (ns : List Int) : ∀ j, j < ns.length → ns[argBest (fun i j => decide (ns.getD i 0 > ns.getD j 0)) j]? = maxG (ns.take (j + 1))
  | 0, h => by
    cases ns with
    | nil => simp at h
    | cons n ns => rfl
  | j + 1, h => by
    have ih := argBest_max ns j (by omega)
    have step : argBest (fun i j => decide (ns.getD i 0 > ns.getD j 0)) (j + 1) = if decide (ns.getD (j + 1) 0 > ns.getD (argBest (fun i j => decide (ns.getD i 0 > ns.getD j 0)) j) 0) = true then j + 1 else argBest (fun i j => decide (ns.getD i 0 > ns.getD j 0)) j := rfl
    rw [step]
    generalize argBest (fun i j => decide (ns.getD i 0 > ns.getD j 0)) j = b at ih ⊢
    have hj : ns.take (j + 1 + 1) = ns.take (j + 1) ++ [ns[j + 1]] := by rw [List.take_add_one, List.getElem?_eq_getElem h]; rfl
    have hm : ∀ x, maxG (ns.take (j + 1) ++ [x]) = (maxG (ns.take (j + 1))).map fun m => if m < x then x else m := fun x => by
      cases ns with
      | nil => simp at h
      | cons n ns => simp only [List.take_succ_cons, List.cons_append, maxG, List.foldl_append, List.foldl_cons, List.foldl_nil, Option.map_some]
    rw [hj, hm, ← ih]
    cases q : ns[b]? with
    | none =>
      rw [q] at ih
      cases ns with
      | nil => simp at h
      | cons n ns => simp [maxG] at ih
    | some m =>
      rw [getD_of q, getD_of (List.getElem?_eq_getElem h), Option.map_some]
      by_cases hc : m < ns[j + 1]
      · rw [if_pos (decide_eq_true hc), if_pos hc, List.getElem?_eq_getElem h]
      · rw [if_neg (by rw [decide_eq_true_eq]; exact hc), if_neg hc, q]
def rMaxP (K : PySem.W.Frag) : List V → Hp → VK → Prop := fun vs H Q => ∃ (a : Addr) (ns : List Int) (m : Int), vs = [V.ref a] ∧ maxG ns = some m ∧ (SqL K H a (ns.map V.int) ∨ SqT K H a (ns.map V.int)) ∧ Q (.int m) H
theorem cr_maxP (hc : X.calm = true) : CallR X (.builtin "max") (rMaxP X.K) := by
  rintro pins s σ H _ us Q I r ⟨a, ns, m, rfl, hm, hs, q⟩
  rw [Vals.ref1 r]
  have hne : 0 < ns.length := by
    cases ns with
    | nil => cases hm
    | cons _ _ => exact Nat.zero_lt_succ _
  refine call_max_walk (walk_ints hc I hs fun s₂ J fp wr P St W st hfp hP hI => ⟨J, fp, wr, ns.length, P, St, fun i j => decide (ns.getD i 0 > ns.getD j 0), rfl, W, st, hfp, hne, fun i j vi vj s' Q' E' hi hj hq => ?_, fun v h' tk hv hk => ?_⟩)
  · obtain ⟨t, n, rfl, hn⟩ := hP i vi hi
    obtain ⟨t', n', rfl, hn'⟩ := hP j vj hj
    have hq : Q' (.bool (decide (ns.getD i 0 > ns.getD j 0))) s' := hq
    rw [getD_of hn, getD_of hn'] at hq
    exact gt_int hq
  · obtain ⟨t, n, rfl, hn⟩ := hP _ v hv
    have e := argBest_max ns (ns.length - 1) (by omega)
    rw [show ns.length - 1 + 1 = ns.length by omega, List.take_length, hm, hn] at e
    cases e
    exact ⟨.int _, H, hI h' tk hk, ⟨t, rfl⟩, q⟩
theorem cd_max : CallD X (rMaxP X.K) (intsW maxG) := cd_ints (G := maxG) (fun H a ns m Q e hs q => ⟨a, ns, m, rfl, e, hs, q⟩) fun ws w h => intsF h
/-- max(a, b) -/
def max2F : List W → Option W
  | [.dat (.int i), .dat (.int j)] => some (.dat (.int (if j > i then j else i)))
  | _ => none
theorem cd_max2 : CallD X (fun xs H Q => ∃ i j, xs = [.int i, .int j] ∧ Q (.int (if j > i then j else i)) H) max2F := fun T M H ws w vs Q e tr mt r k => by
  unfold max2F at e
  split at e
  · cases e
    cases r with
    | cons r1 r2 =>
      cases r2 with
      | cons r2 r3 =>
        cases r3
        cases (show Rp M H _ _ from r1)
        cases (show Rp M H _ _ from r2)
        exact ⟨_, _, rfl, k _ H (Gr.refl H) (Rp.int _)⟩
  · cases e
end
end ND

set_option Elab.async false
set_option linter.all false
set_option maxRecDepth 100000
set_option maxHeartbeats 4000000
/-! ND10: sum of lists, from a new list on. -/
namespace ND
open PySem PySem.Spec L2 PySem.W
open PyProof.Rows hiding St

section
variable {X : Cx} {e a b : Expr} {f g : EF} {pos : Pos} {es : List Expr} {h : AF}
/-- the iterator of a list or tuple -/
theorem walk_seq {pins : List (Addr × Obj)} {σ : St} {H : Hp} {s : Shared} {l : Addr} {xs : List V} {Q : Value → Shared → Prop} {E : Value → Shared → Prop} (hc : X.calm = true) (I : Inv X pins σ H s) (hs : SqL X.K H l xs ∨ SqT X.K H l xs)
    (h : ∀ (h₂ : Heap) (fp : List Addr) (P : Nat → Value → Prop) (St : Nat → Heap → Prop), Walks X.prog X.w X.A.in1 s.heap.objs.size fp [s.heap.objs.size] xs.length P St → St 0 h₂ → (∀ b ∈ fp, b < h₂.objs.size) → s.heap.objs.size < h₂.objs.size →
      (∀ (i : Nat) v, P i v → ∃ x, xs[i]? = some x ∧ RelV x v) → (∀ b o, s.heap.get? b = some o → h₂.get? b = some o) → Q (.ref s.heap.objs.size) { s with heap := h₂ }) : wpAny (model X.prog X.w) X.A.in1 (pyIter (.ref l)) Q E s := by
  have fin : ∀ (its : List Value), Vals xs its → (∀ (i : Nat) v, its.toArray[i]? = some v → ∃ x, xs[i]? = some x ∧ RelV x v) ∧ its.toArray.size = xs.length := fun its rv => by
    refine ⟨fun i v hv => ?_, by rw [List.size_toArray, ← rv.length]⟩
    have hv' : its[i]? = some v := by simpa using hv
    have hi : i < xs.length := by
      have := (List.getElem?_eq_some_iff.mp hv').1
      rw [← rv.length] at this
      exact this
    obtain ⟨u, hu, r⟩ := rv.get (i := i) (x := xs[i]) (List.getElem?_eq_getElem hi)
    rw [hv'] at hu
    cases hu
    exact ⟨xs[i], List.getElem?_eq_getElem hi, r⟩
  rcases hs with hs | hs
  · obtain ⟨its, rv, pl, _⟩ := I.list hs
    obtain ⟨f1, f2⟩ := fin its rv
    refine wpAny_pyIter_list pl.isList (h _ _ _ _ (f2 ▸ Walks.list (A := X.A.in1) (I.ok.hd hc) s.heap.objs.size l (Nat.ne_of_lt pl.lt) its.toArray) ⟨⟨_, Heap.get?_push_size _ rfl, rfl, rfl⟩, pl.isList.push _⟩ (fun b hb => ?_) ?_ f1 fun b o q => Heap.get?_push_of_some _ q)
    · have e' : b = s.heap.objs.size ∨ b = l := by simpa using hb
      rw [Heap.size_push]
      rcases e' with z | z
      · rw [z]; exact Nat.lt_succ_self _
      · rw [z]; exact Nat.lt_succ_of_lt pl.lt
    · rw [Heap.size_push]; exact Nat.lt_succ_self _
  · obtain ⟨its, rv, pl, _⟩ := I.tuple hs
    have pl' : s.heap.IsTuple l its.toArray := pl
    obtain ⟨f1, f2⟩ := fin its rv
    refine wpAny_pyIter_tuple pl' (h _ _ _ _ (f2 ▸ Walks.tuple (A := X.A.in1) (I.ok.hd hc) s.heap.objs.size l (Nat.ne_of_lt pl.lt) its.toArray) ⟨⟨_, Heap.get?_push_size _ rfl, rfl, rfl⟩, ?_⟩ (fun b hb => ?_) ?_ f1 fun b o q => Heap.get?_push_of_some _ q)
    · have e' : b = s.heap.objs.size ∨ b = l := by simpa using hb
      rw [Heap.size_push]
      rcases e' with z | z
      · rw [z]; exact Nat.lt_succ_self _
      · rw [z]; exact Nat.lt_succ_of_lt pl.lt
    · rw [Heap.size_push]; exact Nat.lt_succ_self _
    · obtain ⟨o, ho, r⟩ := pl'
      exact ⟨o, Heap.get?_push_of_some _ ho, r⟩
end
section
variable {prog : Program} {w : World} {A : Around} {R : Result → Shared → Prop} {I : Addr} {fp wr : List Addr} {n : Nat} {P : Nat → Value → Prop} {St : Nat → Heap → Prop}
abbrev listAt (h : Heap) (l : Addr) (its : List Value) (c : Nat) : Prop := h.get? l = some { cls := .type "list", data := .seq its.toArray c }
theorem sum_lists_loop (W : Walks prog w A.in1 I fp wr n P St) (S : Addr) (hSf : ∀ b ∈ fp, b < S) (vss : List (List Value)) (hn : vss.length = n) (hL : (vss.map List.length).sum ≤ sizeLine) :
    ∀ (k i : Nat) (s : Shared) (t : Addr) (us : List Value) (c ct : Nat), n - i = k → i ≤ n → St i s.heap → s.heap.get? S = some { cls := .type "list", dict := none, data := .seq #[.ref t] c, slots := #[] } → t ≠ S → t ∉ wr → listAt s.heap t us ct →
    us.length + ((vss.drop i).map List.length).sum ≤ sizeLine →
    (∀ j v, P j v → ∃ l cl vs, v = .ref l ∧ vss[j]? = some vs ∧ l ≠ S ∧ l ∉ wr ∧ listAt s.heap l vs cl) →
    (∀ h' tk p cp, (∀ b o, b ∉ wr → b ≠ S → s.heap.get? b = some o → h'.get? b = some o) → (i = n ∧ p = t ∨ i < n ∧ S < p ∧ s.heap.get? p = none) → listAt h' p (us ++ (vss.drop i).flatten) cp → R (.ok (.ret (.ref p))) { s with heap := h', toks := tk }) →
    codeAny (model prog w) A (.builtin "sum.loop" ⟨[.ref I, .ref S, rawInt 2, rawInt 0], []⟩) R s := by
  have hSw : S ∉ wr := fun h => Nat.lt_irrefl _ (hSf _ (W.sub _ h))
  intro k
  induction k with
  | zero =>
    intro i s t us c ct hk hi hst hS htS htw hl hz hP hR
    have hin : i = n := by omega
    subst hin
    refine codeAny_builtin PySem.F.entry_sum_loop ?_
    rw [Around.under_plainId PySem.F.plain_sum_loop _]
    show wpAny _ A.in1 (seqItems? (.ref S) >>= _) _ _ s
    refine wpAny_bind (wpAny_seqItems hS rfl ?_)
    show wpAny _ A.in1 (tryCatch (pyNext (.ref I)) _ >>= _) _ _ s
    refine wpAny_bind (wpAny_tryCatch (W.done s _ _ hst fun h' tk hk' => ?_))
    refine wpAny_pure (hR h' tk t ct (fun b o hbw _ e => hk' b o hbw e) (.inl ⟨rfl, rfl⟩) ?_)
    rw [← hn, List.drop_length]
    simpa using hk' t _ htw hl
  | succ k ih =>
    intro i s t us c ct hk hi hst hS htS htw hl hz hP hR
    have hlt : i < n := by omega
    refine codeAny_builtin PySem.F.entry_sum_loop ?_
    rw [Around.under_plainId PySem.F.plain_sum_loop _]
    show wpAny _ A.in1 (seqItems? (.ref S) >>= _) _ _ s
    refine wpAny_bind (wpAny_seqItems hS rfl ?_)
    show wpAny _ A.in1 (tryCatch (pyNext (.ref I)) _ >>= _) _ _ s
    refine wpAny_bind (wpAny_tryCatch (W.item i s _ _ hlt hst fun v h' tk hPv hst' hk' => ?_))
    obtain ⟨l, cl, vs, rfl, evs, hlS, hlw, hlv⟩ := hP i v hPv
    have hS' := hk' S _ hSw hS
    have ht' := hk' t _ htw hl
    have hv' := hk' l _ hlw hlv
    have hdrop : vss.drop i = vs :: vss.drop (i + 1) := by
      rw [List.drop_eq_getElem_cons (by omega)]
      rw [List.getElem?_eq_getElem (by omega)] at evs
      cases evs
      rfl
    rw [hdrop, List.map_cons, List.sum_cons] at hz
    show wpAny _ A.in1 ((holding [Value.ref l] (binaryOp .Add (.ref t) (.ref l))).attempt >>= _) _ _ _
    refine wpAny_bind (wpAny_attempt (wpAny_holding (PySem.P.add_list (s := { s with heap := h', toks := tk }) ht' hv' ?_ (by rw [List.size_toArray, List.size_toArray]; omega))))
    have ea : us.toArray ++ vs.toArray = (us ++ vs).toArray := by simp
    rw [ea]
    have lt : S < h'.objs.size := Heap.lt_size hS'
    have hS2 := Heap.get?_push_of_some (h := h') { cls := .type "list", data := .seq (us ++ vs).toArray } hS'
    show wpAny _ A.in1 (updateSeq S (fun _ => #[.ref h'.objs.size]) >>= _) _ _ _
    refine wpAny_bind (wpAny_updateSeq hS2 rfl ?_)
    have hS₂ := Heap.get?_update_self (Obj.mapSeq fun _ => #[Value.ref h'.objs.size]) hS2 rfl
    refine wpAny_bind (wpAny_letGo ?_)
    refine wpAny_bind (wpAny_updateSeq hS₂ rfl (wpAny_pure ⟨plainId_quiet PySem.F.plain_sum_loop _, ih (i + 1) _ h'.objs.size (us ++ vs) _ 0 (by omega) hlt (W.frame _ _ _ hst' fun b hb o e => ?_) (Heap.get?_update_self _ hS₂ rfl) (Nat.ne_of_gt lt) ?_ ?_ ?_ ?_ fun h'' tk'' p cp hk'' hp hlp => ?_⟩))
    · have hne : S ≠ b := fun z => Nat.lt_irrefl _ (z ▸ hSf b hb)
      exact (Heap.get?_update_other _ _ hne).trans ((Heap.get?_update_other _ _ hne).trans (Heap.get?_push_of_some _ e))
    · intro z
      exact Nat.lt_irrefl _ (Nat.lt_trans lt (hSf _ (W.sub _ z)))
    · exact (Heap.get?_update_other _ _ (Nat.ne_of_lt lt)).trans ((Heap.get?_update_other _ _ (Nat.ne_of_lt lt)).trans (Heap.get?_push_size _ rfl))
    · rw [List.length_append]; omega
    · intro j v hj
      obtain ⟨l2, cl2, vs2, rfl, e2, h1, h2, h3⟩ := hP j v hj
      exact ⟨l2, cl2, vs2, rfl, e2, h1, h2, (Heap.get?_update_other _ _ (Ne.symm h1)).trans ((Heap.get?_update_other _ _ (Ne.symm h1)).trans (Heap.get?_push_of_some _ (hk' _ _ h2 h3)))⟩
    · have keep : ∀ b o, b ∉ wr → b ≠ S → s.heap.get? b = some o → h''.get? b = some o := fun b o hbw hbS e =>
        hk'' b o hbw hbS ((Heap.get?_update_other _ _ (Ne.symm hbS)).trans ((Heap.get?_update_other _ _ (Ne.symm hbS)).trans (Heap.get?_push_of_some _ (hk' b o hbw e))))
      refine hR h'' tk'' p cp keep (.inr ⟨hlt, ?_⟩) ?_
      · have none_of : ∀ q, S < q → (h'.get? q = none) → s.heap.get? q = none := fun q lq nq => by
          cases e : s.heap.get? q with
          | none => rfl
          | some o =>
            have : q ∉ wr := fun z => Nat.lt_irrefl _ (Nat.lt_trans lq (hSf _ (W.sub _ z)))
            rw [hk' q o this e] at nq
            cases nq
        rcases hp with ⟨_, rfl⟩ | ⟨_, lp, np⟩
        · refine ⟨lt, none_of _ lt ?_⟩
          cases e : h'.get? h'.objs.size with
          | none => rfl
          | some o => exact absurd (Heap.lt_size e) (Nat.lt_irrefl _)
        · refine ⟨lp, none_of p lp ?_⟩
          cases e : h'.get? p with
          | none => rfl
          | some o =>
            have hne : S ≠ p := Nat.ne_of_lt lp
            rw [show ((h'.push { cls := .type "list", data := .seq (us ++ vs).toArray }).update S _ |>.update S _).get? p = some o from (Heap.get?_update_other _ _ hne).trans ((Heap.get?_update_other _ _ hne).trans (Heap.get?_push_of_some _ e))] at np
            cases np
      · rw [hdrop, List.flatten_cons, ← List.append_assoc]
        exact hlp
end

theorem bb_len : bootBuiltins "len" = some (.builtin "len") := by decide +kernel
theorem bb_all : bootBuiltins "all" = some (.builtin "all") := by decide +kernel
theorem bb_any : bootBuiltins "any" = some (.builtin "any") := by decide +kernel
theorem bb_sorted : bootBuiltins "sorted" = some (.builtin "sorted") := by decide +kernel
theorem bb_max : bootBuiltins "max" = some (.builtin "max") := by decide +kernel
theorem bb_min : bootBuiltins "min" = some (.builtin "min") := by decide +kernel
theorem bb_sum : bootBuiltins "sum" = some (.builtin "sum") := by decide +kernel
theorem bb_isinstance : bootBuiltins "isinstance" = some (.builtin "isinstance") := by decide +kernel
theorem bb_abs : bootBuiltins "abs" = some (.builtin "abs") := by decide +kernel
theorem bb_list : bootBuiltins "list" = some (.type "list") := by decide +kernel
theorem bb_tuple : bootBuiltins "tuple" = some (.type "tuple") := by decide +kernel
theorem bb_int : bootBuiltins "int" = some (.type "int") := by decide +kernel
theorem bb_set : bootBuiltins "set" = some (.type "set") := by decide +kernel
theorem bb_dict : bootBuiltins "dict" = some (.type "dict") := by decide +kernel
theorem bb_bool : bootBuiltins "bool" = some (.type "bool") := by decide +kernel
theorem bb_str : bootBuiltins "str" = some (.type "str") := by decide +kernel
theorem args_sum2 (a b : Value) : argsOk "sum" ⟨[a, b], []⟩ := by unfold argsOk; kernel_rfl
section
variable {X : Cx} {e a b : Expr} {f g : EF} {pos : Pos} {es : List Expr} {h : AF}
def rSumL (K : PySem.W.Frag) : List V → Hp → VK → Prop := fun vs H Q => ∃ (a b : Addr) (ls : List Addr) (xss : List (List V)), vs = [V.ref a, V.ref b] ∧ (SqL K H a (ls.map V.ref) ∨ SqT K H a (ls.map V.ref)) ∧ H b = some (.lst []) ∧
  EachIs (fun l xs => H l = some (.lst xs)) ls xss ∧ (xss.map List.length).sum ≤ sizeLine ∧ (ls = [] → Q (.ref b) H) ∧ (ls ≠ [] → ∀ p, H p = none → Q (.ref p) (upd H p (.lst xss.flatten)))
theorem each_get {α β : Type} {R : α → β → Prop} : ∀ {as : List α} {bs : List β} {i : Nat} {a : α}, EachIs R as bs → as[i]? = some a → ∃ b, bs[i]? = some b ∧ R a b
  | _, _, i, _, .nil, e => by simp at e
  | _, _, 0, _, .cons r _, e => by cases (Option.some.inj e); exact ⟨_, rfl, r⟩
  | _, _, i + 1, _, .cons _ t, e => each_get (i := i) t e
theorem each_len {α β : Type} {R : α → β → Prop} : ∀ {as : List α} {bs : List β}, EachIs R as bs → as.length = bs.length
  | _, _, .nil => rfl
  | _, _, .cons _ t => by rw [List.length_cons, List.length_cons, each_len t]
theorem vals_app : ∀ {xs ys : List V} {us vs : List Value}, Vals xs us → Vals ys vs → Vals (xs ++ ys) (us ++ vs)
  | _, _, _, _, .nil, h => h
  | _, _, _, _, .cons r t, h => .cons r (vals_app t h)
theorem lists_vals {pins : List (Addr × Obj)} {σ : St} {H : Hp} {s : Shared} (I : Inv X pins σ H s) : ∀ {ls : List Addr} {xss : List (List V)}, EachIs (fun l xs => H l = some (.lst xs)) ls xss →
    ∃ vss : List (List Value), EachIs (fun l vs => ∃ c, listAt s.heap l vs c) ls vss ∧ vss.map List.length = xss.map List.length ∧ Vals xss.flatten vss.flatten
  | _, _, .nil => ⟨[], .nil, rfl, .nil⟩
  | _, _, .cons r t => by
    obtain ⟨vss, h1, h2, h3⟩ := lists_vals I t
    obtain ⟨z, its, n, rv, hl, el⟩ := I.lstM r
    exact ⟨its :: vss, .cons ⟨n, el⟩ h1, by rw [List.map_cons, List.map_cons, h2, hl], by rw [List.flatten_cons, List.flatten_cons]; exact vals_app rv h3⟩
theorem cr_sumL (hc : X.calm = true) : CallR X (.builtin "sum") (rSumL X.K) := by
  rintro pins s σ H _ us Q I r ⟨a, b, ls, xss, rfl, hs, hb, hls, hz, q0, q1⟩
  obtain ⟨rfl⟩ : us = [.ref a, .ref b] := by
    cases r with
    | cons r1 r2 =>
      cases r2 with
      | cons r3 r4 =>
        cases r4
        cases r1
        cases r3
        rfl
  obtain ⟨vss, hvs, hlen, hval⟩ := lists_vals I hls
  obtain ⟨zb, itb, nb, rb, hlb, eb⟩ := I.lstM hb
  obtain rfl : itb = [] := by
    cases itb with
    | nil => rfl
    | cons _ _ => cases hlb
  refine call_function_tree PySem.F.kind_sum PySem.F.plain_sum PySem.F.entry_sum (args_sum2 _ _) ?_
  unfold Builtin.«sum»
  simp only [List.length_cons, List.length_nil]
  rw [if_neg (by decide)]
  refine wpAny_bind (wpAny_of_eq (show Builtin.Builtins.bindParams "sum" ["start"] 0 ⟨[.ref b], []⟩ = pure [some (.ref b)] from rfl) ?_)
  refine wpAny_bind (walk_seq hc I hs fun h₂ fp P St W hst hfp hJ hP hk => ?_)
  refine wpAny_bind (wpAny_pure ?_)
  have tb : ∀ {h3 : Heap} (hk : ∀ b o, s.heap.get? b = some o → h3.get? b = some o), ({ s with heap := h3 } : Shared).TypeIs (.ref b) "list" := fun hk => ⟨_, hk _ _ eb, rfl⟩
  simp only [List.forIn_cons, List.forIn_nil]
  refine wpAny_bind (wpAny_bind (wpAny_bind (wpAny_isInstance (T := "list") (b := false) (tb hk) PySem.F.sub_list_str ?_)))
  simp only [Bool.false_eq_true, if_false]
  refine wpAny_pure (wpAny_bind (wpAny_bind (wpAny_isInstance (T := "list") (b := false) (tb hk) PySem.F.sub_list_bytes ?_)))
  simp only [Bool.false_eq_true, if_false]
  refine wpAny_pure (wpAny_bind (wpAny_bind (wpAny_isInstance (T := "list") (b := false) (tb hk) PySem.F.sub_list_bytearray ?_)))
  simp only [Bool.false_eq_true, if_false]
  refine wpAny_pure (wpAny_pure ?_)
  refine wpAny_bind (wpAny_newObj_type ?_)
  have hn : (ls.map V.ref).length = vss.length := by rw [List.length_map]; exact each_len hvs
  have lts : ∀ {z : Addr} {o : Obj}, s.heap.get? z = some o → z ≠ h₂.objs.size ∧ z ∉ [s.heap.objs.size] := fun e => ⟨Nat.ne_of_lt (Heap.lt_size (hk _ _ e)), fun m => by
    have := Heap.lt_size e
    rw [List.mem_singleton] at m
    exact Nat.lt_irrefl _ (m ▸ this)⟩
  refine wpAny_pure ⟨plainId_quiet PySem.F.plain_sum_loop _, sum_lists_loop W h₂.objs.size hfp vss hn.symm (by rw [hlen]; exact hz) _ 0 _ b [] 0 nb rfl (Nat.zero_le _)
    (W.frame _ _ _ hst fun b _ o e => Heap.get?_push_of_some _ e) (Heap.get?_push_size _ rfl) (lts eb).1 (lts eb).2 (Heap.get?_push_of_some _ (hk _ _ eb)) (by rw [List.drop_zero, hlen]; simpa using hz) ?_ ?_⟩
  · intro j v hj
    obtain ⟨x, ex, rx⟩ := hP j v hj
    rw [List.getElem?_map] at ex
    cases el : ls[j]? with
    | none => rw [el] at ex; cases ex
    | some l =>
      rw [el] at ex
      cases ex
      cases rx
      obtain ⟨vs, ev, c, hv⟩ := each_get hvs el
      exact ⟨l, c, vs, rfl, ev, (lts hv).1, (lts hv).2, Heap.get?_push_of_some _ (hk _ _ hv)⟩
  · intro h' tk p cp hk' hp hlp
    have keep : ∀ b o, s.heap.get? b = some o → h'.get? b = some o := fun b o e => hk' b o (lts e).2 (lts e).1 (Heap.get?_push_of_some _ (hk _ _ e))
    rw [List.drop_zero, List.nil_append] at hlp
    rcases hp with ⟨hi, rfl⟩ | ⟨hi, lp, np⟩
    · have e0 : ls = [] := by
        rw [List.length_map] at hi
        exact List.length_eq_zero_iff.mp hi.symm
      exact ⟨.ref p, H, I.kept keep, rfl, q0 e0⟩
    · have ne : ls ≠ [] := fun z => by
        rw [z] at hi
        exact Nat.lt_irrefl _ hi
      have hp : s.heap.objs.size ≤ p := Nat.le_of_lt (Nat.lt_trans hJ lp)
      refine ⟨.ref p, _, I.laid (a := p) (o := .lst xss.flatten) keep hp ⟨?_, vss.flatten, cp, hval, hlp⟩, rfl, q1 ne p (I.hok.fresh hp)⟩
      rw [List.length_flatten]
      exact hz
/-! over data -/
def listsOf : List PyData → Option (List (List PyData))
  | [] => some []
  | .list ds :: rest => (listsOf rest).map fun q => ds :: q
  | _ :: _ => none
theorem listsOf_rp {M : MS} {H : Hp} : ∀ {ds : List PyData} {dss : List (List PyData)} {vs : List V}, listsOf ds = some dss → RpAll M H vs ds → ∃ (ls : List Addr) (xss : List (List V)), vs = ls.map V.ref ∧ EachIs (fun l xs => H l = some (.lst xs)) ls xss ∧ EachIs (fun xs d => RpAll M H xs d) xss dss
  | [], _, _, e, h => by cases e; cases h; exact ⟨[], [], rfl, .nil, .nil⟩
  | d :: ds, dss, _, e, h => by
    cases h with
    | cons r t =>
      cases d with
      | list d =>
        unfold listsOf at e
        cases e1 : listsOf ds with
        | none => rw [e1] at e; cases e
        | some q =>
          rw [e1] at e
          cases e
          obtain ⟨ls, xss, rfl, h1, h2⟩ := listsOf_rp e1 t
          cases r with
          | lst ea n rr => exact ⟨_ :: ls, _ :: xss, rfl, .cons ea h1, .cons rr h2⟩
      | _ => cases e
theorem each_flat {M : MS} {H : Hp} : ∀ {xss : List (List V)} {dss : List (List PyData)}, EachIs (fun xs d => RpAll M H xs d) xss dss → RpAll M H xss.flatten dss.flatten ∧ xss.map List.length = dss.map List.length
  | _, _, .nil => ⟨.nil, rfl⟩
  | _, _, .cons r t => by
    obtain ⟨h1, h2⟩ := each_flat t
    exact ⟨by rw [List.flatten_cons, List.flatten_cons]; exact r.append h1, by rw [List.map_cons, List.map_cons, h2, r.length]⟩
def sumLF : List W → Option W
  | [.dat (.list ds), .dat (.list [])] => (listsOf ds).bind fun dss => if (dss.map List.length).sum ≤ 16777216 then some (.dat (.list dss.flatten)) else none
  | _ => none
theorem de_sumL {p : Pos} (hc : X.calm = true) (hg : Gl X "sum") (hm : X.mg "sum" = none) (ha : DA X (e :: es) h)
    (he : starEach (e :: es) X.env = (false, eval e X.env) :: starEach es X.env := by rfl) (hpl : (backTo pos (starEach es X.env)).any (·.1) = false := by rfl) : DE X (.Call (.Name "sum" p) (e :: es) [] pos) (callF sumLF h) :=
  (pe_callB (cr_sumL hc) hg hm bb_sum ha (by decide) (by decide) he hpl).mono fun σ H Q ⟨T, M0, H0, M, ρ, τ, w, ρ', τ', S, ef, k⟩ => by
    unfold callF at ef
    cases e1 : h ρ τ with
    | none => rw [e1] at ef; cases ef
    | some r1 =>
      obtain ⟨ws, ρ1, τ1⟩ := r1
      rw [e1] at ef
      simp only [Option.bind_some] at ef
      cases e3 : sumLF ws with
      | none => rw [e3] at ef; cases ef
      | some w' =>
        rw [e3] at ef
        cases ef
        refine ⟨T, M0, H0, M, ρ, τ, ws, _, _, S, e1, fun vs M1 H1 S1 x1 r1 => ?_⟩
        unfold sumLF at e3
        split at e3
        · next ds =>
          cases e4 : listsOf ds with
          | none => rw [e4] at e3; cases e3
          | some dss =>
            rw [e4] at e3
            simp only [Option.bind_some] at e3
            split at e3
            · next hz =>
              cases e3
              cases r1 with
              | cons ra rb =>
                cases rb with
                | cons rb rn =>
                  cases rn
                  cases (show Rp M1 H1 _ _ from ra) with
                  | lst ea na ra =>
                    cases (show Rp M1 H1 _ _ from rb) with
                    | lst eb nb rb =>
                      cases rb
                      obtain ⟨ls, xss, rfl, h1, h2⟩ := listsOf_rp e4 ra
                      obtain ⟨f1, f2⟩ := each_flat h2
                      refine ⟨_, _, ls, xss, rfl, .inl (SqL.of ea), eb, h1, by rw [f2]; exact szl hz, fun z => ?_, fun ne p np => ?_⟩
                      · subst z
                        cases h1
                        cases h2
                        exact k _ M1 H1 S1 x1 (Rp.lst eb nb .nil)
                      · have g : Gr H1 (upd H1 p (.lst xss.flatten)) := Gr.upd np
                        exact k _ M1 _ (S1.grow g) (x1.trans g.ex) (Rp.lst upd_same (S1.fresh np) (RpAll.later g.later _ _ f1))
            · cases e3
        · cases e3
end
end ND

set_option Elab.async false
set_option linter.all false
set_option maxRecDepth 100000
set_option maxHeartbeats 4000000
/-! ND11: defs by name; calls of built-ins; the law's own def. -/
namespace ND
open PySem PySem.Spec L2
open PyProof.Rows hiding St

section
variable {P : Program} {w : World} {K : PySem.W.Frag} {mg : Str → Option Value} {base : Heap}
/-- a def of the top: called with data it gives what F says -/
def Fn (P : Program) (w : World) (K : PySem.W.Frag) (mg : Str → Option Value) (base : Heap) (x : Str) (k : Nat) (F : List W → Tape → Option (W × Tape)) : Prop :=
  ∃ f fd ps, FnOk P w K mg base CX0 k f fd ps (spD P w F) ∧ mg x = some (.ref f) ∧ PySem.W.keepIn K (.ref f) = true ∧ Binds K fd ps []
/-- a def as the top has it -/
def Df (K : PySem.W.Frag) (mg : Str → Option Value) (x : Str) (st : Stmt) (ps : List Str) : Prop := ∃ f fd, Fun K x x st f fd ∧ mg x = some (.ref f) ∧ Binds K fd ps []
theorem fn_mk {x : Str} {st : Stmt} {N ps : List Str} {k : Nat} {B : SF} (D : Df K mg x st ps) (S : FnScope N ps (defScope st))
    (hbody : ∀ (f : Addr) (cdv : Value) (A : Around) (outer : List Env) (s : Shared) (H : Hp) (E : XK), Room k (A.deeper (envOfC x (defScope st) s.heap.objs.size f cdv)) →
      DSs (cxOf CX0 P w K mg base N x (defScope st) f cdv A outer s H E).nox (defBody st) B) : Fn P w K mg base x (k + 1) (fnF ps.length N.length B) := by
  obtain ⟨f, fd, F, g, b⟩ := D
  exact ⟨f, fd, ps, fn_ok F S fun cdv A outer s H E hr => hbody f cdv A outer s H E hr, g, F.kp, b⟩
theorem fn_0 {x : Str} {st : Stmt} {ps : List Str} {k : Nat} (D : Df K mg x st ps) : Fn P w K mg base x k fun _ _ => none := by
  obtain ⟨f, fd, F, g, b⟩ := D
  exact ⟨f, fd, ps, fn_none.mono (Nat.zero_le k), g, F.kp, b⟩
end
section
variable {X : Cx} {e a b : Expr} {f g : EF} {pos p : Pos} {es : List Expr} {h : AF} {x : Str}
theorem de_fn {k j : Nat} {F : List W → Tape → Option (W × Tape)} (G : Fn X.prog X.w X.K X.mg X.base x k F) (hr : Room j X.A) (hk : k ≤ j) (hg : Gl X x) (hh : DA X (e :: es) h) (hdb : (x == ("__debug__" : Str)) = false := by decide)
    (he : starEach (e :: es) X.env = (false, eval e X.env) :: starEach es X.env := by rfl) (hpl : (backTo pos (starEach es X.env)).any (·.1) = false := by rfl) : DE X (.Call (.Name x p) (e :: es) [] pos) (callD F h) := by
  obtain ⟨fa, fd, ps, G, hm, kp, hb⟩ := G
  exact de_call G (hr.mono hk) hg hm kp hb hh hdb he hpl
theorem dc_len (hg : Gl X "len") (hm : X.mg "len" = none) (ha : DAB X [a] h) (hs : starEach [a] X.env = [(false, eval a X.env)] := by rfl) : DE X (.Call (.Name "len" p) [a] [] pos) (callF lenF h) := de_callB cr_lenP cd_len hg hm bb_len ha (by decide) (by decide) hs rfl
theorem dc_sorted (hu : X.A.units + 64 < cLine) (hg : Gl X "sorted") (hm : X.mg "sorted" = none) (ha : DAB X [a] h) (hs : starEach [a] X.env = [(false, eval a X.env)] := by rfl) : DE X (.Call (.Name "sorted" p) [a] [] pos) (callF sortedF h) := de_callB (cr_sortP hu) cd_sorted hg hm bb_sorted ha (by decide) (by decide) hs rfl
theorem dc_all (hc : X.calm = true) (hg : Gl X "all") (hm : X.mg "all" = none) (ha : DAB X [a] h) (hs : starEach [a] X.env = [(false, eval a X.env)] := by rfl) : DE X (.Call (.Name "all" p) [a] [] pos) (callF allF h) := de_callB (cr_all hc) cd_all hg hm bb_all ha (by decide) (by decide) hs rfl
theorem dc_any (hc : X.calm = true) (hg : Gl X "any") (hm : X.mg "any" = none) (ha : DAB X [a] h) (hs : starEach [a] X.env = [(false, eval a X.env)] := by rfl) : DE X (.Call (.Name "any" p) [a] [] pos) (callF anyF h) := de_callB (cr_any hc) cd_any hg hm bb_any ha (by decide) (by decide) hs rfl
theorem dc_sum (hc : X.calm = true) (hg : Gl X "sum") (hm : X.mg "sum" = none) (ha : DAB X [a] h) (hs : starEach [a] X.env = [(false, eval a X.env)] := by rfl) : DE X (.Call (.Name "sum" p) [a] [] pos) (callF (intsW sumG) h) := de_callB (cr_sumP hc) cd_sum hg hm bb_sum ha (by decide) (by decide) hs rfl
theorem dc_max (hc : X.calm = true) (hg : Gl X "max") (hm : X.mg "max" = none) (ha : DAB X [a] h) (hs : starEach [a] X.env = [(false, eval a X.env)] := by rfl) : DE X (.Call (.Name "max" p) [a] [] pos) (callF (intsW maxG) h) := de_callB (cr_maxP hc) cd_max hg hm bb_max ha (by decide) (by decide) hs rfl
theorem dc_max2 (hc : X.calm = true) (hg : Gl X "max") (hm : X.mg "max" = none) (ha : DAB X [a, b] h) (hs : starEach [a, b] X.env = (false, eval a X.env) :: starEach [b] X.env := by rfl) (hpl : (backTo pos (starEach [b] X.env)).any (·.1) = false := by rfl) : DE X (.Call (.Name "max" p) [a, b] [] pos) (callF max2F h) := de_callB (call_max2 hc) cd_max2 hg hm bb_max ha (by decide) (by decide) hs hpl
theorem dc_tuple (hg : Gl X "tuple") (hm : X.mg "tuple" = none) (ha : DAB X [a] h) (hs : starEach [a] X.env = [(false, eval a X.env)] := by rfl) : DE X (.Call (.Name "tuple" p) [a] [] pos) (callF tupleF h) := de_callTy call_tupleF cd_tuple hg hm bb_tuple ha (by decide) (by decide) hs rfl
theorem dcn_list (hg : Gl X "list") (hm : X.mg "list" = none) (ha : DAB X [a] h) (hs : starEach [a] X.env = [(false, eval a X.env)] := by rfl) : DN X (.Call (.Name "list" p) [a] [] pos) (listN h) := dn_list hg hm bb_list ha (by decide) (by decide) hs
theorem dt_eq (hu : X.A.units + 64 < cLine) (ha : DB X a f) (hb : DB X b g) : DT X (.Compare a [.Eq] [b] pos) (tst (op2 eqW f g)) := dt_cmp (op_eqD hu) opp_eq.d ha hb (nomark _)
theorem dt_ne (hu : X.A.units + 64 < cLine) (ha : DB X a f) (hb : DB X b g) : DT X (.Compare a [.NotEq] [b] pos) (tst (op2 neW f g)) := dt_cmp (op_neD hu) opp_ne.d ha hb (nomark _)
theorem dt_lt (hu : X.A.units + 64 < cLine) (ha : DB X a f) (hb : DB X b g) : DT X (.Compare a [.Lt] [b] pos) (tst (op2 ltW f g)) := dt_cmp (op_ltP hu) opp_lt.d ha hb (nomark _)
theorem dt_le (ha : DB X a f) (hb : DB X b g) : DT X (.Compare a [.LtE] [b] pos) (tst (op2 leW f g)) := dt_cmp op_le opp_le.d ha hb (nomark _)
theorem dt_gt (ha : DB X a f) (hb : DB X b g) : DT X (.Compare a [.Gt] [b] pos) (tst (op2 gtW f g)) := dt_cmp op_gt opp_gt.d ha hb (nomark _)
theorem dt_ge (ha : DB X a f) (hb : DB X b g) : DT X (.Compare a [.GtE] [b] pos) (tst (op2 geW f g)) := dt_cmp op_ge opp_ge.d ha hb (nomark _)
theorem dt_in (hu : X.A.units + 65 < cLine) (ha : DB X a f) (hb : DB X b g) (hm : behindInMarks .In b = false := by rfl) : DT X (.Compare a [.In] [b] pos) (tst (op2 (inW false) f g)) := dt_cmp (op_inP hu) (opp_in false).d ha hb hm
theorem dt_nin (hu : X.A.units + 65 < cLine) (ha : DB X a f) (hb : DB X b g) (hm : behindInMarks .NotIn b = false := by rfl) : DT X (.Compare a [.NotIn] [b] pos) (tst (op2 (inW true) f g)) := dt_cmp (op_notInP hu) (opp_in true).d ha hb hm
theorem dt_is (ha : DB X a f) (hb : DB X b g) : DT X (.Compare a [.Is] [b] pos) (tst (op2 (isNW false) f g)) := dt_cmp op_isN opd_isN ha hb (nomark _)
theorem dt_isnt (ha : DB X a f) (hb : DB X b g) : DT X (.Compare a [.IsNot] [b] pos) (tst (op2 (isNW true) f g)) := dt_cmp op_notN opd_notN ha hb (nomark _)
theorem de_eq (hu : X.A.units + 64 < cLine) (ha : DB X a f) (hb : DB X b g) : DE X (.Compare a [.Eq] [b] pos) (op2 eqW f g) := de_cmp (op_eqD hu) opp_eq.d ha hb (nomark _)
theorem de_ne (hu : X.A.units + 64 < cLine) (ha : DB X a f) (hb : DB X b g) : DE X (.Compare a [.NotEq] [b] pos) (op2 neW f g) := de_cmp (op_neD hu) opp_ne.d ha hb (nomark _)
theorem de_lt (hu : X.A.units + 64 < cLine) (ha : DB X a f) (hb : DB X b g) : DE X (.Compare a [.Lt] [b] pos) (op2 ltW f g) := de_cmp (op_ltP hu) opp_lt.d ha hb (nomark _)
theorem de_le (ha : DB X a f) (hb : DB X b g) : DE X (.Compare a [.LtE] [b] pos) (op2 leW f g) := de_cmp op_le opp_le.d ha hb (nomark _)
theorem de_gt (ha : DB X a f) (hb : DB X b g) : DE X (.Compare a [.Gt] [b] pos) (op2 gtW f g) := de_cmp op_gt opp_gt.d ha hb (nomark _)
theorem de_ge (ha : DB X a f) (hb : DB X b g) : DE X (.Compare a [.GtE] [b] pos) (op2 geW f g) := de_cmp op_ge opp_ge.d ha hb (nomark _)
theorem de_in (hu : X.A.units + 65 < cLine) (ha : DB X a f) (hb : DB X b g) (hm : behindInMarks .In b = false := by rfl) : DE X (.Compare a [.In] [b] pos) (op2 (inW false) f g) := de_cmp (op_inP hu) (opp_in false).d ha hb hm
theorem de_nin (hu : X.A.units + 65 < cLine) (ha : DB X a f) (hb : DB X b g) (hm : behindInMarks .NotIn b = false := by rfl) : DE X (.Compare a [.NotIn] [b] pos) (op2 (inW true) f g) := de_cmp (op_notInP hu) (opp_in true).d ha hb hm
theorem de_is (ha : DB X a f) (hb : DB X b g) : DE X (.Compare a [.Is] [b] pos) (op2 (isNW false) f g) := de_cmp op_isN opd_isN ha hb (nomark _)
theorem de_isnt (ha : DB X a f) (hb : DB X b g) : DE X (.Compare a [.IsNot] [b] pos) (op2 (isNW true) f g) := de_cmp op_notN opd_notN ha hb (nomark _)
theorem _root_.L2.Room.u65 {k : Nat} {A : Around} (r : Room k A) : A.units + 65 < cLine := by have := r.un; omega
end
end ND

set_option Elab.async false
set_option linter.all false
set_option maxRecDepth 100000
set_option maxHeartbeats 4000000
/-! ND12: comprehensions, methods, isinstance, in short; the law's own def. -/
namespace ND
open PySem PySem.Spec L2
open PyProof.Rows hiding St

section
variable {X : Cx} {e a b elt tg iter tg1 iter1 : Expr} {f g0 : EF} {g g1 : GF} {t t1 : BF} {pos p pos' : Pos} {es ifs ifs1 : List Expr} {ha : AF} {h h1 : FF} {x : Str} {scope : Scope} {own : List (Str × Nat)} {is is1 vs1 : List Nat} {bb b2 : Bool}
theorem dn_lc (hc : X.calm = true) (hN : X.N.Nodup) (hi : DI X tg iter bb h) (ok : BlkOk X.N X.env.scope scope own)
    (hg : ∀ (s : Shared) (H : Hp) (C : Addr) (cl : List (Str × Addr)) (fp : List Addr), DG (X.blk s H scope (compEnvC scope cl C X.env) fp) tg bb is g)
    (ht : ∀ (s : Shared) (H : Hp) (C : Addr) (cl : List (Str × Addr)) (fp : List Addr), DTs (X.blk s H scope (compEnvC scope cl C X.env) fp) ifs t)
    (he : ∀ (s : Shared) (H : Hp) (C : Addr) (cl : List (Str × Addr)) (fp : List Addr), DE (X.blk s H scope (compEnvC scope cl C X.env) fp) elt f) (his : ∀ j ∈ is, j ∈ own.map (·.2) := by decide)
    (hs : ∀ x, foldedSetIterable iter X.env x = pure x := by intro _; rfl) : DN X (.ListComp elt [⟨tg, iter, ifs, 0⟩] scope pos) (lcN h g t f (own.map (·.2))) :=
  (pe_lc (g := tDG X bb is g) (tt := tDT X t) (te := tD X f) hc hN hi ok hg ht he hs).mono fun _ _ _ q => lc_td his q
theorem dn_lc2 (hc : X.calm = true) (hN : X.N.Nodup) (hi : DI X tg iter bb h) (ok : BlkOk X.N X.env.scope scope own)
    (hg : ∀ (s : Shared) (H : Hp) (C : Addr) (cl : List (Str × Addr)) (fp : List Addr), DG (X.blk s H scope (compEnvC scope cl C X.env) fp) tg bb is g)
    (hi1 : ∀ (s : Shared) (H : Hp) (C : Addr) (cl : List (Str × Addr)) (fp : List Addr), DI (X.blk s H scope (compEnvC scope cl C X.env) fp) tg1 iter1 b2 h1)
    (hg1 : ∀ (s : Shared) (H : Hp) (C : Addr) (cl : List (Str × Addr)) (fp : List Addr), DG (X.blk s H scope (compEnvC scope cl C X.env) fp) tg1 b2 is1 g1)
    (ht1 : ∀ (s : Shared) (H : Hp) (C : Addr) (cl : List (Str × Addr)) (fp : List Addr), DTs (X.blk s H scope (compEnvC scope cl C X.env) fp) ifs1 t1)
    (he : ∀ (s : Shared) (H : Hp) (C : Addr) (cl : List (Str × Addr)) (fp : List Addr), DE (X.blk s H scope (compEnvC scope cl C X.env) fp) elt f) (his : ∀ j ∈ is, j ∈ own.map (·.2) := by decide) (his1 : ∀ j ∈ is1, j ∈ is1 := by exact fun _ q => q) (hv : ∀ i ∈ is1, i ∈ own.map (·.2) := by decide)
    (hs : ∀ x, foldedSetIterable iter X.env x = pure x := by intro _; rfl) (hs1 : ∀ env x, foldedSetIterable iter1 env x = pure x := by intro _ _; rfl) : DN X (.ListComp elt [⟨tg, iter, [], 0⟩, ⟨tg1, iter1, ifs1, 0⟩] scope pos) (lc2N h g h1 g1 t1 f (own.map (·.2)) is1) :=
  (pe_lc2 (g := tDG X bb is g) (tt := tDT X yesB) (wi1 := tDI X b2 h1) (g1 := tDG X b2 is1 g1) (tt1 := tDT X t1) (te := tD X f) (vs1 := is1) hc hN hi ok hv hg (fun _ _ _ _ _ => dts_nil) hi1 hg1 ht1 he hs hs1).mono fun _ _ _ q => lc2_td his his1 hv q
/-- a list newly made, as a value of a name -/
theorem ofN_asg {i : Nat} {k : FF} {D : Ends} {σ : St} {H : Hp} (q : tDS X (setS i (ofN k)) D σ H) : tAsg (tDN X k) (gName i) D σ H := by
  obtain ⟨T, M0, H0, M, ρ, τ, o, S, ef, w⟩ := q
  unfold setS ofN at ef
  cases e1 : k ρ τ with
  | none => rw [e1] at ef; cases ef
  | some r =>
    rw [e1] at ef
    cases ef
    refine ⟨T, M0, H0, M, ρ, τ, r.1, _, _, S, e1, fun a' M' H' F => ?_⟩
    obtain ⟨S2, x2, rr⟩ := F.done S
    exact w _ _ H' (S2.putVal (w := .dat (.list r.1)) rr) (x2.later S.mt)
theorem ds_setLc {i : Nat} {y : Str} {py spos : Pos} (hc : X.calm = true) (hN : X.N.Nodup) (hy : X.N[i]? = some y) (hyl : X.env.scope.names.lookup y = some .local)
    (hsw : swapsWith (.ListComp elt [⟨tg, iter, ifs, 0⟩] scope pos) (some (.Name y py)) spos.line X.env = pure true) (hi : DI X tg iter bb h) (ok : BlkOk X.N X.env.scope scope own)
    (hg : ∀ (s : Shared) (H : Hp) (C : Addr) (cl : List (Str × Addr)) (fp : List Addr), DG (X.blk s H scope (compEnvC scope cl C X.env) fp) tg bb is g)
    (ht : ∀ (s : Shared) (H : Hp) (C : Addr) (cl : List (Str × Addr)) (fp : List Addr), DTs (X.blk s H scope (compEnvC scope cl C X.env) fp) ifs t)
    (he : ∀ (s : Shared) (H : Hp) (C : Addr) (cl : List (Str × Addr)) (fp : List Addr), DE (X.blk s H scope (compEnvC scope cl C X.env) fp) elt f) (his : ∀ j ∈ is, j ∈ own.map (·.2) := by decide)
    (hs : ∀ x, foldedSetIterable iter X.env x = pure x := by intro _; rfl) : DS X (.Assign [.Name y py] (.ListComp elt [⟨tg, iter, ifs, 0⟩] scope pos) spos) (setS i (ofN (lcN h g t f (own.map (·.2))))) :=
  (ps_setLc (i := i) (g := tDG X bb is g) (tt := tDT X t) (te := tD X f) hc hN hy hyl hsw hi ok hg ht he hs).mono fun D σ H q => lc_td his (ofN_asg q)
theorem ds_ownLc {i : Nat} {y : Str} {py spos : Pos} (hc : X.calm = true) (hN : X.N.Nodup) (hy : X.N[i]? = some y) (hyl : X.env.scope.names.lookup y = some .local)
    (hsw : swapsWith (.ListComp elt [⟨tg, iter, ifs, 0⟩] scope pos) (some (.Name y py)) spos.line X.env = pure true) (hi : DI X tg iter bb h) (ok : BlkOk X.N X.env.scope scope own)
    (hg : ∀ (s : Shared) (H : Hp) (C : Addr) (cl : List (Str × Addr)) (fp : List Addr), DG (X.blk s H scope (compEnvC scope cl C X.env) fp) tg bb is g)
    (ht : ∀ (s : Shared) (H : Hp) (C : Addr) (cl : List (Str × Addr)) (fp : List Addr), DTs (X.blk s H scope (compEnvC scope cl C X.env) fp) ifs t)
    (he : ∀ (s : Shared) (H : Hp) (C : Addr) (cl : List (Str × Addr)) (fp : List Addr), DE (X.blk s H scope (compEnvC scope cl C X.env) fp) elt f) (his : ∀ j ∈ is, j ∈ own.map (·.2) := by decide)
    (hs : ∀ x, foldedSetIterable iter X.env x = pure x := by intro _; rfl) : DS X (.Assign [.Name y py] (.ListComp elt [⟨tg, iter, ifs, 0⟩] scope pos) spos) (ownS i (lcN h g t f (own.map (·.2)))) :=
  (ps_setLc (i := i) (g := tDG X bb is g) (tt := tDT X t) (te := tD X f) hc hN hy hyl hsw hi ok hg ht he hs).mono fun D σ H q => lc_td his (own_td q)
theorem ds_setLc2 {i : Nat} {y : Str} {py spos : Pos} (hc : X.calm = true) (hN : X.N.Nodup) (hy : X.N[i]? = some y) (hyl : X.env.scope.names.lookup y = some .local)
    (hsw : swapsWith (.ListComp elt [⟨tg, iter, [], 0⟩, ⟨tg1, iter1, ifs1, 0⟩] scope pos) (some (.Name y py)) spos.line X.env = pure true) (hi : DI X tg iter bb h) (ok : BlkOk X.N X.env.scope scope own)
    (hg : ∀ (s : Shared) (H : Hp) (C : Addr) (cl : List (Str × Addr)) (fp : List Addr), DG (X.blk s H scope (compEnvC scope cl C X.env) fp) tg bb is g)
    (hi1 : ∀ (s : Shared) (H : Hp) (C : Addr) (cl : List (Str × Addr)) (fp : List Addr), DI (X.blk s H scope (compEnvC scope cl C X.env) fp) tg1 iter1 b2 h1)
    (hg1 : ∀ (s : Shared) (H : Hp) (C : Addr) (cl : List (Str × Addr)) (fp : List Addr), DG (X.blk s H scope (compEnvC scope cl C X.env) fp) tg1 b2 is1 g1)
    (ht1 : ∀ (s : Shared) (H : Hp) (C : Addr) (cl : List (Str × Addr)) (fp : List Addr), DTs (X.blk s H scope (compEnvC scope cl C X.env) fp) ifs1 t1)
    (he : ∀ (s : Shared) (H : Hp) (C : Addr) (cl : List (Str × Addr)) (fp : List Addr), DE (X.blk s H scope (compEnvC scope cl C X.env) fp) elt f) (his : ∀ j ∈ is, j ∈ own.map (·.2) := by decide) (his1 : ∀ j ∈ is1, j ∈ is1 := by exact fun _ q => q) (hv : ∀ i ∈ is1, i ∈ own.map (·.2) := by decide)
    (hs : ∀ x, foldedSetIterable iter X.env x = pure x := by intro _; rfl) (hs1 : ∀ env x, foldedSetIterable iter1 env x = pure x := by intro _ _; rfl) : DS X (.Assign [.Name y py] (.ListComp elt [⟨tg, iter, [], 0⟩, ⟨tg1, iter1, ifs1, 0⟩] scope pos) spos) (setS i (ofN (lc2N h g h1 g1 t1 f (own.map (·.2)) is1))) :=
  (ps_setLc2 (i := i) (g := tDG X bb is g) (tt := tDT X yesB) (wi1 := tDI X b2 h1) (g1 := tDG X b2 is1 g1) (tt1 := tDT X t1) (te := tD X f) (vs1 := is1) hc hN hy hyl hsw hi ok hv hg (fun _ _ _ _ _ => dts_nil) hi1 hg1 ht1 he hs hs1).mono fun D σ H q => lc2_td his his1 hv (ofN_asg q)
end
section
variable {X : Cx} {e a b o : Expr} {f g : EF} {pos p p1 p2 p3 apos : Pos} {es : List Expr} {h : AF} {x : Str}
/-! isinstance -/
theorem de_isA {t : String} {ty : Str} (kt : KitT t) (hbt : bootBuiltins ty = some (.type t)) (hn : ty ≠ "__name__") (hd : (ty == ("__debug__" : Str)) = false) (hg : Gl X "isinstance") (hm : X.mg "isinstance" = none) (hg2 : Gl X ty) (hm2 : X.mg ty = none) (ha : DB X a f)
    (hs1 : starEach [a, .Name ty p1] X.env = (false, eval a X.env) :: starEach [.Name ty p1] X.env := by rfl) (hs2 : starEach [.Name ty p1] X.env = (false, eval (.Name ty p1) X.env) :: starEach [] X.env := by rfl)
    (hpl : (backTo pos (starEach [.Name ty p1] X.env)).any (·.1) = false := by rfl) : DE X (.Call (.Name "isinstance" p) [a, .Name ty p1] [] pos) (un1 (isiW [t]) f) :=
  de_isi kt (pe_callB call_isi hg hm bb_isinstance (pa_cons ha (pa_cons (pe_bltn (v := .ty t) hg2 hm2 hbt rfl hn hd) pa_nil hs2) hs1) (by decide) (by decide) hs1 hpl)
theorem de_isA2 {t u : String} {ty uy : Str} {k : Nat} (kt : KitT t) (ku : KitT u) (hbt : bootBuiltins ty = some (.type t)) (hn : ty ≠ "__name__") (hd : (ty == ("__debug__" : Str)) = false) (hbu : bootBuiltins uy = some (.type u)) (hun : uy ≠ "__name__") (hud : (uy == ("__debug__" : Str)) = false)
    (hg : Gl X "isinstance") (hm : X.mg "isinstance" = none) (hg2 : Gl X ty) (hm2 : X.mg ty = none) (hg3 : Gl X uy) (hm3 : X.mg uy = none) (ha : DB X a f)
    (hs1 : starEach [a, .Tuple [.Name ty p1, .Name uy p2] k p3] X.env = (false, eval a X.env) :: starEach [.Tuple [.Name ty p1, .Name uy p2] k p3] X.env := by rfl) (hs2 : starEach [.Tuple [.Name ty p1, .Name uy p2] k p3] X.env = (false, eval (.Tuple [.Name ty p1, .Name uy p2] k p3) X.env) :: starEach [] X.env := by rfl)
    (hs3 : starEach [.Name ty p1, .Name uy p2] X.env = (false, eval (.Name ty p1) X.env) :: starEach [.Name uy p2] X.env := by rfl) (hs4 : starEach [.Name uy p2] X.env = (false, eval (.Name uy p2) X.env) :: starEach [] X.env := by rfl)
    (hpl : (backTo pos (starEach [.Tuple [.Name ty p1, .Name uy p2] k p3] X.env)).any (·.1) = false := by rfl) : DE X (.Call (.Name "isinstance" p) [a, .Tuple [.Name ty p1, .Name uy p2] k p3] [] pos) (un1 (isiW [t, u]) f) :=
  de_isi2 kt ku (pe_callB call_isiT hg hm bb_isinstance (pa_cons ha (pa_cons (pe_tup (pa_cons (pe_bltn (v := .ty t) hg2 hm2 hbt rfl hn hd) (pa_cons (pe_bltn (v := .ty u) hg3 hm3 hbu rfl hun hud) pa_nil hs4) hs3)) pa_nil hs2) hs1) (by decide) (by decide) hs1 hpl)
end
/-! ### the law -/
def lawT (ns : List Int) : Tape := ⟨ns, 0, 0⟩
def lawE (N : Nat) : EnvD := (List.replicate N none).set 1 (some (.val .tape))
def spLaw (K : PySem.W.Frag) : Sp := fun vs H Q _ => ∃ (a : Addr) (ns : List Int), vs = [.ref a] ∧ SqL K H a (ns.map V.int) ∧ ns.length ≤ 63 ∧ ∀ H', Q (.bl true) H'
section
variable {P : Program} {w : World} {K : PySem.W.Frag} {mg : Str → Option Value} {base : Heap}
theorem law_ok {st s1 : Stmt} {rest : List Stmt} {f : Addr} {fd : FuncData} {N : List Str} {k : Nat} {B : SF} (F : Fun K "law" "law" st f fd) (S : FnScope N ["script"] (defScope st)) (hN : 1 < N.length) (m : mg "list" = none)
    (hb : defBody st = s1 :: rest)
    (h1 : ∀ (cdv : Value) (A : Around) (outer : List Env) (s : Shared) (H : Hp) (E : XK), PS (cxOf CX0 P w K mg base N "law" (defScope st) f cdv A outer s H E).nox s1 (tAsg (tLst (tCons (tCB (fun xs H Q => ∃ a ys, xs = [.ref a] ∧ (SqL K H a ys ∨ SqT K H a ys) ∧ ∀ l, H l = none → Q (.ref l) (upd H l (.lst ys))) (tCons (tVar 0) tNil)) (tCons (tC (.int 0)) (tCons (tC (.int 0)) tNil)))) (gName 1)))
    (hbody : ∀ (cdv : Value) (A : Around) (outer : List Env) (s : Shared) (H : Hp) (E : XK), Room k (A.deeper (envOfC "law" (defScope st) s.heap.objs.size f cdv)) →
      DSs (cxOf CX0 P w K mg base N "law" (defScope st) f cdv A outer s H E).nox rest B)
    (law : ∀ ns : List Int, ns.length ≤ 63 → ∃ τ, B (lawE N.length) (lawT ns) = some (.rt (.dat (.bool true)) τ)) : FnOk P w K mg base CX0 (k + 1) f fd ["script"] (spLaw K) := by
  refine F.ok S (fun vs H Q E h => ?_) (fun cdv A outer s H vs Q E hr h => ?_)
  · obtain ⟨a, ns, rfl, _⟩ := h
    rfl
  · obtain ⟨a, ns, rfl, hS, hl, q⟩ := h
    rw [hb]
    refine ⟨_, pss_cons (h1 cdv A outer s H E) (hbody cdv A outer s H E hr), ?_⟩
    have hN0 : 0 < N.length := by omega
    refine ⟨.ref a, ?_, a, ns.map V.int, rfl, .inl hS, fun l nl => ⟨show 3 ≤ sizeLine by decide, fun t nt => ?_⟩⟩
    · show (start N [.ref a])[0]? = some (some (.ref a))
      rfl
    · obtain ⟨τ, e⟩ := law ns hl
      have ne : l ≠ t := fun z => by
        rw [z, upd_same] at nt
        cases nt
      have el : (upd (upd H l (.lst (ns.map V.int))) t (.lst [.ref l, .int 0, .int 0])) l = some (.lst (ns.map V.int)) := by
        rw [upd_ne ne, upd_same]
      refine ⟨t, fun b => b = t, _, fun b => b = t, lawE N.length, lawT ns, _, ⟨?_, ⟨rfl, l, upd_same, el, ne⟩, fun _ m => m, rfl, fun b m => ?_, fun b m => ?_, fun b o e _ => e, fun i s e => ?_, fun i j s t v e1 e2 o1 _ => ?_⟩, e, ?_⟩
      · show ((List.replicate N.length none).set 1 _).length = ((start N [.ref a]).set 1 _).length
        rw [List.length_set, List.length_set, List.length_replicate]
        unfold L2.start
        simp
        omega
      · rw [m, upd_same]; exact fun z => by cases z
      · rw [m, upd_same]; exact fun z => by cases z
      · rcases get_set e with ⟨rfl, z, _⟩ | ⟨ne, z⟩
        · cases z
          refine ⟨.ref t, ?_, rfl⟩
          show ((start N [.ref a]).set 1 _)[1]? = _
          rw [List.getElem?_set_self]
          unfold L2.start
          simp
          omega
        · rw [List.getElem?_replicate] at z
          split at z <;> cases z
      · rcases get_set e1 with ⟨rfl, z, _⟩ | ⟨ne, z⟩
        · cases z
          cases o1
        · rw [List.getElem?_replicate] at z
          split at z <;> cases z
      · intro v H' _ _ r
        cases (show Rp _ _ v (.bool true) from r)
        exact q H'
end
end ND

set_option Elab.async false
set_option linter.all false
set_option maxRecDepth 100000
set_option maxHeartbeats 4000000
/-! ND13: what a mirror comes to, step by step. -/
namespace ND
open PySem

def wE (f : EF) (ρ : EnvD) (τ : Tape) (Q : W → EnvD → Tape → Prop) : Prop := ∃ w ρ' τ', f ρ τ = some (w, ρ', τ') ∧ Q w ρ' τ'
def wB (f : BF) (ρ : EnvD) (τ : Tape) (Q : Bool → EnvD → Tape → Prop) : Prop := ∃ w ρ' τ', f ρ τ = some (w, ρ', τ') ∧ Q w ρ' τ'
def wA (f : AF) (ρ : EnvD) (τ : Tape) (Q : List W → EnvD → Tape → Prop) : Prop := ∃ w ρ' τ', f ρ τ = some (w, ρ', τ') ∧ Q w ρ' τ'
def wN (f : FF) (ρ : EnvD) (τ : Tape) (Q : List PyData → EnvD → Tape → Prop) : Prop := ∃ w ρ' τ', f ρ τ = some (w, ρ', τ') ∧ Q w ρ' τ'
def wO (f : OF) (ρ : EnvD) (τ : Tape) (Q : Option Int → EnvD → Tape → Prop) : Prop := ∃ w ρ' τ', f ρ τ = some (w, ρ', τ') ∧ Q w ρ' τ'
def wS (F : SF) (ρ : EnvD) (τ : Tape) (Q : Out → Prop) : Prop := ∃ o, F ρ τ = some o ∧ Q o
def wF (F : List W → Tape → Option (W × Tape)) (ws : List W) (τ : Tape) (Q : W → Tape → Prop) : Prop := ∃ w τ', F ws τ = some (w, τ') ∧ Q w τ'
/-- an optional value -/
def wV {α : Type} (o : Option α) (Q : α → Prop) : Prop := ∃ a, o = some a ∧ Q a
section
variable {ρ : EnvD} {τ : Tape} {f g h : EF} {p q : BF} {ha hb : AF} {F G : SF}
@[simp] theorem wV_some {α : Type} {a : α} {Q : α → Prop} : wV (some a) Q ↔ Q a := ⟨fun ⟨_, e, q⟩ => (by cases e; exact q), fun q => ⟨a, rfl, q⟩⟩
@[simp] theorem wV_none {α : Type} {Q : α → Prop} : wV (none : Option α) Q ↔ False := ⟨fun ⟨_, e, _⟩ => (by cases e), False.elim⟩
theorem wV_congr {α : Type} {o : Option α} {Q Q' : α → Prop} (h : ∀ a, Q a ↔ Q' a) : wV o Q ↔ wV o Q' := ⟨fun ⟨a, e, q⟩ => ⟨a, e, (h a).mp q⟩, fun ⟨a, e, q⟩ => ⟨a, e, (h a).mpr q⟩⟩
theorem wV_ite {α : Type} {c : Prop} [Decidable c] {a b : Option α} {Q : α → Prop} : wV (if c then a else b) Q ↔ if c then wV a Q else wV b Q := by split <;> exact Iff.rfl
theorem wV_if {α : Type} {c : Prop} [Decidable c] {a : α} {Q : α → Prop} : wV (if c then some a else none) Q ↔ c ∧ Q a := by
  split
  · next h => simp [h]
  · next h => simp [h]
theorem wV_map {α β : Type} {k : α → β} {a : Option α} {Q : β → Prop} : wV (a.map k) Q ↔ wV a fun x => Q (k x) := by
  cases a with
  | none => simp
  | some a => simp
theorem wV_bind {α β : Type} {k : α → Option β} {a : Option α} {Q : β → Prop} : wV (a.bind k) Q ↔ wV a fun x => wV (k x) Q := by
  cases a with
  | none => simp
  | some a => simp
theorem wE_iff {Q : W → EnvD → Tape → Prop} : wE f ρ τ Q ↔ wV (f ρ τ) fun r => Q r.1 r.2.1 r.2.2 := ⟨fun ⟨w, a, b, e, q⟩ => ⟨_, e, q⟩, fun ⟨r, e, q⟩ => ⟨r.1, r.2.1, r.2.2, e, q⟩⟩
theorem wB_iff {Q : Bool → EnvD → Tape → Prop} : wB p ρ τ Q ↔ wV (p ρ τ) fun r => Q r.1 r.2.1 r.2.2 := ⟨fun ⟨w, a, b, e, q⟩ => ⟨_, e, q⟩, fun ⟨r, e, q⟩ => ⟨r.1, r.2.1, r.2.2, e, q⟩⟩
theorem wA_iff {Q : List W → EnvD → Tape → Prop} : wA ha ρ τ Q ↔ wV (ha ρ τ) fun r => Q r.1 r.2.1 r.2.2 := ⟨fun ⟨w, a, b, e, q⟩ => ⟨_, e, q⟩, fun ⟨r, e, q⟩ => ⟨r.1, r.2.1, r.2.2, e, q⟩⟩
theorem wN_iff {k : FF} {Q : List PyData → EnvD → Tape → Prop} : wN k ρ τ Q ↔ wV (k ρ τ) fun r => Q r.1 r.2.1 r.2.2 := ⟨fun ⟨w, a, b, e, q⟩ => ⟨_, e, q⟩, fun ⟨r, e, q⟩ => ⟨r.1, r.2.1, r.2.2, e, q⟩⟩
theorem wO_iff {k : OF} {Q : Option Int → EnvD → Tape → Prop} : wO k ρ τ Q ↔ wV (k ρ τ) fun r => Q r.1 r.2.1 r.2.2 := ⟨fun ⟨w, a, b, e, q⟩ => ⟨_, e, q⟩, fun ⟨r, e, q⟩ => ⟨r.1, r.2.1, r.2.2, e, q⟩⟩
theorem wS_iff {Q : Out → Prop} : wS F ρ τ Q ↔ wV (F ρ τ) Q := Iff.rfl
theorem wF_iff {K : List W → Tape → Option (W × Tape)} {ws : List W} {Q : W → Tape → Prop} : wF K ws τ Q ↔ wV (K ws τ) fun r => Q r.1 r.2 := ⟨fun ⟨w, a, e, q⟩ => ⟨_, e, q⟩, fun ⟨r, e, q⟩ => ⟨r.1, r.2, e, q⟩⟩

/-! names -/
def look (ρ : EnvD) (i : Nat) : Option Sl := match ρ[i]? with
  | some (some s) => some s
  | _ => none
@[simp] theorem look_0 {x : Option Sl} {r : EnvD} : look (x :: r) 0 = x := by cases x <;> rfl
@[simp] theorem look_s {x : Option Sl} {r : EnvD} {i : Nat} : look (x :: r) (i + 1) = look r i := rfl
@[simp] theorem wE_var {i : Nat} {Q : W → EnvD → Tape → Prop} : wE (var i) ρ τ Q ↔ match look ρ i with
    | some (.val w) => Q w ρ τ
    | some (.own ds) => Q (.dat (.list ds)) (ρ.set i (some (.val (.dat (.list ds))))) τ
    | some (.ownD kvs) => Q (.dct kvs) (ρ.set i (some (.val (.dct kvs)))) τ
    | none => False := by
  rw [wE_iff]; unfold var look
  cases e : ρ[i]? with
  | none => simp
  | some o =>
    cases o with
    | none => simp
    | some s => cases s <;> simp
@[simp] theorem wE_bvar {i : Nat} {Q : W → EnvD → Tape → Prop} : wE (bvar i) ρ τ Q ↔ match look ρ i with
    | some (.val w) => Q w ρ τ
    | some (.own ds) => Q (.dat (.list ds)) ρ τ
    | some (.ownD kvs) => Q (.dct kvs) ρ τ
    | none => False := by
  rw [wE_iff]; unfold bvar look
  cases e : ρ[i]? with
  | none => simp
  | some o =>
    cases o with
    | none => simp
    | some s => cases s <;> simp
@[simp] theorem wE_cst {d : PyData} {Q : W → EnvD → Tape → Prop} : wE (cst d) ρ τ Q ↔ Q (.dat d) ρ τ := by rw [wE_iff]; unfold cst; simp
@[simp] theorem wE_op2 {K : W → W → Option W} {Q : W → EnvD → Tape → Prop} : wE (op2 K f g) ρ τ Q ↔ wE f ρ τ fun a ρ1 τ1 => wE g ρ1 τ1 fun b ρ2 τ2 => wV (K a b) fun w => Q w ρ2 τ2 := by
  simp only [wE_iff, op2, wV_bind, wV_map]
@[simp] theorem wE_un1 {K : W → Option W} {Q : W → EnvD → Tape → Prop} : wE (un1 K f) ρ τ Q ↔ wE f ρ τ fun a ρ1 τ1 => wV (K a) fun w => Q w ρ1 τ1 := by
  simp only [wE_iff, un1, wV_bind, wV_map]
@[simp] theorem wA_nil {Q : List W → EnvD → Tape → Prop} : wA nilA ρ τ Q ↔ Q [] ρ τ := by simp [wA_iff, nilA]
@[simp] theorem wA_cons {Q : List W → EnvD → Tape → Prop} : wA (consA f ha) ρ τ Q ↔ wE f ρ τ fun a ρ1 τ1 => wA ha ρ1 τ1 fun ws ρ2 τ2 => Q (a :: ws) ρ2 τ2 := by
  simp only [wE_iff, wA_iff, consA, wV_bind, wV_map]
@[simp] theorem wE_callF {K : List W → Option W} {Q : W → EnvD → Tape → Prop} : wE (callF K ha) ρ τ Q ↔ wA ha ρ τ fun ws ρ1 τ1 => wV (K ws) fun w => Q w ρ1 τ1 := by
  simp only [wE_iff, wA_iff, callF, wV_bind, wV_map]
@[simp] theorem wE_callD {K : List W → Tape → Option (W × Tape)} {Q : W → EnvD → Tape → Prop} : wE (callD K ha) ρ τ Q ↔ wA ha ρ τ fun ws ρ1 τ1 => wF K ws τ1 fun w τ2 => Q w ρ1 τ2 := by
  simp only [wE_iff, wA_iff, wF_iff, callD, wV_bind, wV_map]
@[simp] theorem wB_tst {Q : Bool → EnvD → Tape → Prop} : wB (tst f) ρ τ Q ↔ wE f ρ τ fun w ρ1 τ1 => match w with
    | .dat (.bool b) => Q b ρ1 τ1
    | _ => False := by
  simp only [wE_iff, wB_iff, tst, wV_bind]
  refine wV_congr fun r => ?_
  obtain ⟨w, ρ1, τ1⟩ := r
  cases w with
  | dat d => cases d <;> simp
  | tape => simp
  | dct _ => simp
@[simp] theorem wB_not {Q : Bool → EnvD → Tape → Prop} : wB (notB p) ρ τ Q ↔ wB p ρ τ fun b ρ1 τ1 => Q (!b) ρ1 τ1 := by simp only [wB_iff, notB, wV_map]
@[simp] theorem wB_and {Q : Bool → EnvD → Tape → Prop} : wB (andB p q) ρ τ Q ↔ wB p ρ τ fun b ρ1 τ1 => if b = true then wB q ρ1 τ1 Q else Q false ρ1 τ1 := by
  simp only [wB_iff, andB, wV_bind, wV_ite, wV_some]
@[simp] theorem wB_or {Q : Bool → EnvD → Tape → Prop} : wB (orB p q) ρ τ Q ↔ wB p ρ τ fun b ρ1 τ1 => if b = true then Q true ρ1 τ1 else wB q ρ1 τ1 Q := by
  simp only [wB_iff, orB, wV_bind, wV_ite, wV_some]
@[simp] theorem wB_yes {Q : Bool → EnvD → Tape → Prop} : wB yesB ρ τ Q ↔ Q true ρ τ := by simp [wB_iff, yesB]
theorem wV_bool {α : Type} {w : W} {A B : Option α} {Q : α → Prop} : wV (match w with
    | .dat (.bool true) => A
    | .dat (.bool false) => B
    | _ => none) Q ↔ match w with
    | .dat (.bool b) => if b = true then wV A Q else wV B Q
    | _ => False := by
  cases w with
  | dat d =>
    cases d with
    | bool b => cases b <;> simp
    | _ => simp
  | tape => simp
  | dct _ => simp
@[simp] theorem wE_and {Q : W → EnvD → Tape → Prop} : wE (andE f g) ρ τ Q ↔ wE f ρ τ fun w ρ1 τ1 => match w with
    | .dat (.bool b) => if b = true then wE g ρ1 τ1 Q else Q (.dat (.bool false)) ρ1 τ1
    | _ => False := by
  simp only [wE_iff, andE, wV_bind]
  refine wV_congr fun r => ?_
  obtain ⟨w, ρ1, τ1⟩ := r
  cases w with
  | dat d =>
    cases d with
    | bool b => cases b <;> simp
    | _ => simp
  | tape => simp
  | dct _ => simp
@[simp] theorem wE_or {Q : W → EnvD → Tape → Prop} : wE (orE f g) ρ τ Q ↔ wE f ρ τ fun w ρ1 τ1 => match w with
    | .dat (.bool b) => if b = true then Q (.dat (.bool true)) ρ1 τ1 else wE g ρ1 τ1 Q
    | _ => False := by
  simp only [wE_iff, orE, wV_bind]
  refine wV_congr fun r => ?_
  obtain ⟨w, ρ1, τ1⟩ := r
  cases w with
  | dat d =>
    cases d with
    | bool b => cases b <;> simp
    | _ => simp
  | tape => simp
  | dct _ => simp
@[simp] theorem wE_not {Q : W → EnvD → Tape → Prop} : wE (notE f) ρ τ Q ↔ wE f ρ τ fun w ρ1 τ1 => match w with
    | .dat (.bool b) => Q (.dat (.bool (!b))) ρ1 τ1
    | _ => False := by
  simp only [wE_iff, notE, wV_bind]
  refine wV_congr fun r => ?_
  obtain ⟨w, ρ1, τ1⟩ := r
  cases w with
  | dat d => cases d <;> simp
  | tape => simp
  | dct _ => simp
@[simp] theorem wE_if {Q : W → EnvD → Tape → Prop} : wE (ifE p f g) ρ τ Q ↔ wB p ρ τ fun b ρ1 τ1 => if b = true then wE f ρ1 τ1 Q else wE g ρ1 τ1 Q := by
  simp only [wE_iff, wB_iff, ifE, wV_bind, wV_ite]
@[simp] theorem wE_tup {Q : W → EnvD → Tape → Prop} : wE (tupF ha) ρ τ Q ↔ wA ha ρ τ fun ws ρ1 τ1 => wV (datsOf ws) fun ds => ds.length ≤ 16777216 ∧ Q (.dat (.tuple ds)) ρ1 τ1 := by
  simp only [wE_iff, wA_iff, tupF, wV_bind, wV_if]
@[simp] theorem wE_ofN {k : FF} {Q : W → EnvD → Tape → Prop} : wE (ofN k) ρ τ Q ↔ wN k ρ τ fun ds ρ1 τ1 => Q (.dat (.list ds)) ρ1 τ1 := by simp only [wE_iff, wN_iff, ofN, wV_map]
@[simp] theorem wN_lst {Q : List PyData → EnvD → Tape → Prop} : wN (lstN ha) ρ τ Q ↔ wA ha ρ τ fun ws ρ1 τ1 => wV (datsOf ws) fun ds => ds.length ≤ 16777216 ∧ Q ds ρ1 τ1 := by
  simp only [wN_iff, wA_iff, lstN, wV_bind, wV_if]
@[simp] theorem wO_no {Q : Option Int → EnvD → Tape → Prop} : wO noO ρ τ Q ↔ Q none ρ τ := by simp [wO_iff, noO]
@[simp] theorem wO_some {Q : Option Int → EnvD → Tape → Prop} : wO (someO f) ρ τ Q ↔ wE f ρ τ fun w ρ1 τ1 => match w with
    | .dat (.int i) => Q (some i) ρ1 τ1
    | _ => False := by
  simp only [wE_iff, wO_iff, someO, wV_bind]
  refine wV_congr fun r => ?_
  obtain ⟨w, ρ1, τ1⟩ := r
  cases w with
  | dat d => cases d <;> simp
  | tape => simp
  | dct _ => simp
@[simp] theorem wE_sl {l u : OF} {Q : W → EnvD → Tape → Prop} : wE (slF f l u) ρ τ Q ↔ wE f ρ τ fun w ρ1 τ1 => wO l ρ1 τ1 fun lo ρ2 τ2 => wO u ρ2 τ2 fun hi ρ3 τ3 => match w with
    | .dat d => wV (slP d lo hi) fun d' => Q (.dat d') ρ3 τ3
    | _ => False := by
  simp only [wE_iff, wO_iff, slF, wV_bind]
  refine wV_congr fun r => wV_congr fun s => wV_congr fun u => ?_
  obtain ⟨w, ρ1, τ1⟩ := r
  cases w with
  | dat d => simp only [wV_map]
  | tape => simp
  | dct _ => simp
/-! statements -/
@[simp] theorem wS_skip {Q : Out → Prop} : wS skipS ρ τ Q ↔ Q (.nx ρ τ) := by simp [wS_iff, skipS]
@[simp] theorem wS_brk {Q : Out → Prop} : wS brkS ρ τ Q ↔ Q (.bk ρ τ) := by simp [wS_iff, brkS]
@[simp] theorem wS_cnt {Q : Out → Prop} : wS cntS ρ τ Q ↔ Q (.ct ρ τ) := by simp [wS_iff, cntS]
@[simp] theorem wS_stuck {Q : Out → Prop} : wS stuckS ρ τ Q ↔ False := by simp [wS_iff, stuckS]
/-- what follows -/
def thenQ (G : SF) (Q : Out → Prop) : Out → Prop
  | .nx ρ τ => wS G ρ τ Q
  | .rt w τ => Q (.rt w τ)
  | .bk ρ τ => Q (.bk ρ τ)
  | .ct ρ τ => Q (.ct ρ τ)
theorem thenQ_nx {Q : Out → Prop} : thenQ G Q (.nx ρ τ) = wS G ρ τ Q := rfl
@[simp] theorem thenQ_rt {w : W} {Q : Out → Prop} : thenQ G Q (.rt w τ) = Q (.rt w τ) := rfl
@[simp] theorem thenQ_bk {Q : Out → Prop} : thenQ G Q (.bk ρ τ) = Q (.bk ρ τ) := rfl
@[simp] theorem thenQ_ct {Q : Out → Prop} : thenQ G Q (.ct ρ τ) = Q (.ct ρ τ) := rfl
@[simp] theorem wS_seq {Q : Out → Prop} : wS (seqS F G) ρ τ Q ↔ wS F ρ τ (thenQ G Q) := by
  simp only [wS_iff, seqS, wV_bind]
  exact wV_congr fun o => by cases o <;> simp [thenQ, wS_iff]
@[simp] theorem wS_ret {Q : Out → Prop} : wS (retS f) ρ τ Q ↔ wE f ρ τ fun w _ τ1 => Q (.rt w τ1) := by simp only [wS_iff, wE_iff, retS, wV_map]
@[simp] theorem wS_if {Q : Out → Prop} : wS (ifS p F G) ρ τ Q ↔ wB p ρ τ fun b ρ1 τ1 => if b = true then wS F ρ1 τ1 Q else wS G ρ1 τ1 Q := by simp only [wS_iff, wB_iff, ifS, wV_bind, wV_ite]
@[simp] theorem wS_set {i : Nat} {Q : Out → Prop} : wS (setS i f) ρ τ Q ↔ wE f ρ τ fun w ρ1 τ1 => Q (.nx (ρ1.set i (some (.val w))) τ1) := by simp only [wS_iff, wE_iff, setS, wV_map]
@[simp] theorem wS_own {i : Nat} {k : FF} {Q : Out → Prop} : wS (ownS i k) ρ τ Q ↔ wN k ρ τ fun w ρ1 τ1 => Q (.nx (ρ1.set i (some (.own w))) τ1) := by simp only [wS_iff, wN_iff, ownS, wV_map]
@[simp] theorem wS_for {k : FF} {g : GF} {Q : Out → Prop} : wS (forS k g F) ρ τ Q ↔ wN k ρ τ fun ds ρ1 τ1 => wS (forL g F ds) ρ1 τ1 Q := by simp only [wS_iff, wN_iff, forS, wV_bind]
theorem wF_fn {n N : Nat} {B : SF} {ws : List W} {Q : W → Tape → Prop} (hn : ws.length = n) : wF (fnF n N B) ws τ Q ↔ wS B (startD N ws) τ fun o => match o with
    | .rt w τ1 => Q w τ1
    | .nx _ τ1 => Q (.dat .none) τ1
    | _ => False := by
  simp only [wF_iff, wS_iff, fnF, hn, if_true, wV_bind]
  exact wV_congr fun o => by cases o <;> simp
theorem wF_eq {K : List W → Tape → Option (W × Tape)} {ws : List W} {w : W} {τ' : Tape} (h : wF K ws τ fun a t => a = w ∧ t = τ') : K ws τ = some (w, τ') := by
  obtain ⟨a, t, e, rfl, rfl⟩ := h
  exact e
theorem wF_of {K : List W → Tape → Option (W × Tape)} {ws : List W} {w : W} {τ' : Tape} {Q : W → Tape → Prop} (h : K ws τ = some (w, τ')) : wF K ws τ Q ↔ Q w τ' := by
  rw [wF_iff, h, wV_some]

@[simp] theorem wE_chain {Q : W → EnvD → Tape → Prop} : wE (chainLe f g h) ρ τ Q ↔ wE f ρ τ fun a ρ1 τ1 => wE g ρ1 τ1 fun b ρ2 τ2 => match a, b with
    | .dat (.int i), .dat (.int j) => if i ≤ j then wE h ρ2 τ2 fun c ρ3 τ3 => match c with
        | .dat (.int l) => Q (.dat (.bool (decide (j ≤ l)))) ρ3 τ3
        | _ => False
      else Q (.dat (.bool false)) ρ2 τ2
    | _, _ => False := by
  simp only [wE_iff, chainLe, wV_bind]
  refine wV_congr fun r => wV_congr fun s => ?_
  obtain ⟨w, ρ1, τ1⟩ := r
  obtain ⟨w2, ρ2, τ2⟩ := s
  cases w with
  | dat d =>
    cases d with
    | int i =>
      cases w2 with
      | dat d2 =>
        cases d2 with
        | int j =>
          simp only [wV_ite, wV_some, wV_bind]
          by_cases e : i ≤ j
          · rw [if_pos e, if_pos e]
            refine wV_congr fun r => ?_
            obtain ⟨w, ρ1, τ1⟩ := r
            cases w with
            | dat d => cases d <;> simp
            | tape => simp
            | dct _ => simp
          · rw [if_neg e, if_neg e]
        | _ => simp
      | tape => simp
      | dct _ => simp
    | _ => simp
  | tape => simp
  | dct _ => simp
/-! iterables -/
@[simp] theorem wN_seqI {Q : List PyData → EnvD → Tape → Prop} : wN (seqI f) ρ τ Q ↔ wE f ρ τ fun w ρ1 τ1 => wV (itemsOf w) fun ds => Q ds ρ1 τ1 := by simp only [wN_iff, wE_iff, seqI, wV_bind, wV_map]
def rng1V : List W → Option (List PyData)
  | [.dat (.int j)] => if -4611686018427387904 ≤ j ∧ j < 4611686018427387904 then some (rangeD 0 j.toNat) else none
  | _ => none
def rng2V : List W → Option (List PyData)
  | [.dat (.int i), .dat (.int j)] => if (-4611686018427387904 ≤ i ∧ i < 4611686018427387904) ∧ -4611686018427387904 ≤ j ∧ j < 4611686018427387904 then some (rangeD i (j - i).toNat) else none
  | _ => none
def zipV : List W → Option (List PyData)
  | [.dat (.list xs), .dat (.list ys)] => some (zipD xs ys)
  | [.dat (.tuple xs), .dat (.tuple ys)] => some (zipD xs ys)
  | _ => none
def enumV : List W → Option (List PyData)
  | [.dat (.list ds)] => some (enumD ds)
  | [.dat (.tuple ds)] => some (enumD ds)
  | _ => none
def listV : List W → Option (List PyData)
  | [.dat (.list ds)] => some ds
  | [.dat (.tuple ds)] => some ds
  | _ => none
@[simp] theorem wN_rng1 {Q : List PyData → EnvD → Tape → Prop} : wN (rng1I ha) ρ τ Q ↔ wA ha ρ τ fun ws ρ1 τ1 => wV (rng1V ws) fun ds => Q ds ρ1 τ1 := by
  simp only [wN_iff, wA_iff, rng1I, wV_bind]
  refine wV_congr fun r => ?_
  obtain ⟨ws, ρ1, τ1⟩ := r
  unfold rng1V
  dsimp only
  split
  · simp only [wV_if]
  · simp
@[simp] theorem wN_rng2 {Q : List PyData → EnvD → Tape → Prop} : wN (rng2I ha) ρ τ Q ↔ wA ha ρ τ fun ws ρ1 τ1 => wV (rng2V ws) fun ds => Q ds ρ1 τ1 := by
  simp only [wN_iff, wA_iff, rng2I, wV_bind]
  refine wV_congr fun r => ?_
  obtain ⟨ws, ρ1, τ1⟩ := r
  unfold rng2V
  dsimp only
  split
  · simp only [wV_if]
  · simp
@[simp] theorem wN_zip {Q : List PyData → EnvD → Tape → Prop} : wN (zipI ha) ρ τ Q ↔ wA ha ρ τ fun ws ρ1 τ1 => wV (zipV ws) fun ds => Q ds ρ1 τ1 := by
  simp only [wN_iff, wA_iff, zipI, wV_bind]
  refine wV_congr fun r => ?_
  obtain ⟨ws, ρ1, τ1⟩ := r
  unfold zipV
  dsimp only
  split <;> simp
@[simp] theorem wN_enum {Q : List PyData → EnvD → Tape → Prop} : wN (enumI ha) ρ τ Q ↔ wA ha ρ τ fun ws ρ1 τ1 => wV (enumV ws) fun ds => Q ds ρ1 τ1 := by
  simp only [wN_iff, wA_iff, enumI, wV_bind]
  refine wV_congr fun r => ?_
  obtain ⟨ws, ρ1, τ1⟩ := r
  unfold enumV
  dsimp only
  split <;> simp
@[simp] theorem wN_list {Q : List PyData → EnvD → Tape → Prop} : wN (listN ha) ρ τ Q ↔ wA ha ρ τ fun ws ρ1 τ1 => wV (listV ws) fun ds => Q ds ρ1 τ1 := by
  simp only [wN_iff, wA_iff, listN, wV_bind]
  refine wV_congr fun r => ?_
  obtain ⟨ws, ρ1, τ1⟩ := r
  unfold listV
  dsimp only
  split <;> simp
def addV : W → W → Option (List PyData)
  | .dat (.list a), .dat (.list b) => if a.length + b.length ≤ 16777216 then some (a ++ b) else none
  | _, _ => none
@[simp] theorem wN_add {Q : List PyData → EnvD → Tape → Prop} : wN (addN f g) ρ τ Q ↔ wE f ρ τ fun a ρ1 τ1 => wE g ρ1 τ1 fun b ρ2 τ2 => wV (addV a b) fun ds => Q ds ρ2 τ2 := by
  simp only [wN_iff, wE_iff, addN, wV_bind]
  refine wV_congr fun r => wV_congr fun s => ?_
  obtain ⟨w1, ρ1, τ1⟩ := r
  obtain ⟨w2, ρ2, τ2⟩ := s
  unfold addV
  dsimp only
  split
  · simp only [wV_if]
  · simp
def rg2V : W → W → Option (List PyData)
  | .dat (.int i), .dat (.int j) => if (-4611686018427387904 ≤ i ∧ i < 4611686018427387904) ∧ (-4611686018427387904 ≤ j ∧ j < 4611686018427387904) ∧ (j - i).toNat ≤ 16777216 then some (rangeD i (j - i).toNat) else none
  | _, _ => none
@[simp] theorem wN_rg2 {Q : List PyData → EnvD → Tape → Prop} : wN (rg2D f g) ρ τ Q ↔ wE f ρ τ fun a ρ1 τ1 => wE g ρ1 τ1 fun b ρ2 τ2 => wV (rg2V a b) fun ds => Q ds ρ2 τ2 := by
  simp only [wN_iff, wE_iff, rg2D, wV_bind]
  refine wV_congr fun r => wV_congr fun s => ?_
  obtain ⟨w1, ρ1, τ1⟩ := r
  obtain ⟨w2, ρ2, τ2⟩ := s
  unfold rg2V
  dsimp only
  split
  · simp only [wV_if]
  · simp
/-! loops -/
def loopQ (g : GF) (F : SF) (ds : List PyData) (Q : Out → Prop) : Out → Prop
  | .nx ρ τ => wS (forL g F ds) ρ τ Q
  | .ct ρ τ => wS (forL g F ds) ρ τ Q
  | .bk ρ τ => Q (.nx ρ τ)
  | .rt w τ => Q (.rt w τ)
theorem wS_forN {g : GF} {Q : Out → Prop} : wS (forL g F []) ρ τ Q ↔ Q (.nx ρ τ) := by simp [wS_iff, forL]
theorem wS_forC {g : GF} {d : PyData} {ds : List PyData} {Q : Out → Prop} : wS (forL g F (d :: ds)) ρ τ Q ↔ wV (g d ρ) fun ρ1 => wS F ρ1 τ (loopQ g F ds Q) := by
  simp only [wS_iff, forL, wV_bind]
  refine wV_congr fun r => wV_congr fun o => ?_
  cases o <;> simp [loopQ, wS_iff]
/-- a loop by an invariant over what is left -/
theorem wS_forI {g : GF} {Q : Out → Prop} (I : List PyData → EnvD → Tape → Prop) {ds : List PyData} (h0 : I ds ρ τ) (hd : ∀ ρ τ, I [] ρ τ → Q (.nx ρ τ))
    (hs : ∀ d rest ρ τ, I (d :: rest) ρ τ → ∃ ρ1, g d ρ = some ρ1 ∧ wS F ρ1 τ fun o => match o with
      | .nx ρ' τ' => I rest ρ' τ'
      | .ct ρ' τ' => I rest ρ' τ'
      | .bk ρ' τ' => Q (.nx ρ' τ')
      | .rt w τ' => Q (.rt w τ')) : wS (forL g F ds) ρ τ Q := by
  induction ds generalizing ρ τ with
  | nil => exact wS_forN.mpr (hd ρ τ h0)
  | cons d rest ih =>
    obtain ⟨ρ1, e, o, eo, q⟩ := hs d rest ρ τ h0
    refine wS_forC.mpr ⟨ρ1, e, o, eo, ?_⟩
    cases o with
    | nx ρ' τ' => exact ih q
    | ct ρ' τ' => exact ih q
    | bk ρ' τ' => exact q
    | rt w τ' => exact q
/-! comprehensions -/
@[simp] theorem wN_lc {k : FF} {g : GF} {vs : List Nat} {Q : List PyData → EnvD → Tape → Prop} : wN (lcN k g p f vs) ρ τ Q ↔ wN k ρ τ fun ds ρ1 τ1 => wN (lcL g p f vs ds) (wipeD ρ1 vs) τ1 fun out ρ2 τ2 => out.length ≤ 16777216 ∧ Q out (mergeD ρ1 ρ2 vs) τ2 := by
  simp only [wN_iff, lcN, wV_bind, wV_if]
theorem wN_lcN {g : GF} {vs : List Nat} {Q : List PyData → EnvD → Tape → Prop} : wN (lcL g p f vs []) ρ τ Q ↔ Q [] ρ τ := by simp [wN_iff, lcL]
theorem wN_lcC {g : GF} {vs : List Nat} {d : PyData} {ds : List PyData} {Q : List PyData → EnvD → Tape → Prop} : wN (lcL g p f vs (d :: ds)) ρ τ Q ↔ wV (g d ρ) fun ρ1 => wB p ρ1 τ fun b ρ2 τ2 => if b = true then wE f ρ2 τ2 fun w ρ3 τ3 => match w with
      | .dat x => wN (lcL g p f vs ds) (wipeD ρ3 vs) τ3 fun out ρ4 τ4 => Q (x :: out) ρ4 τ4
      | _ => False
    else wN (lcL g p f vs ds) (wipeD ρ2 vs) τ2 Q := by
  simp only [wN_iff, wB_iff, wE_iff, lcL, wV_bind, wV_ite]
  refine wV_congr fun r => wV_congr fun s => ?_
  split
  · refine wV_congr fun u => ?_
    obtain ⟨w, ρ1, τ1⟩ := u
    cases w with
    | dat d => simp only [wV_map]
    | tape => simp
    | dct _ => simp
  · exact Iff.rfl
/-- a comprehension whose parts leave all as it is -/
theorem wN_lcP {g : GF} {vs : List Nat} {Q : List PyData → EnvD → Tape → Prop} {ds : List PyData} (t : PyData → Bool) (k : PyData → PyData)
    (h : ∀ d ∈ ds, ∃ ρ1, g d ρ = some ρ1 ∧ p ρ1 τ = some (t d, ρ1, τ) ∧ (t d = true → f ρ1 τ = some (.dat (k d), ρ1, τ)) ∧ wipeD ρ1 vs = ρ) (q : Q ((ds.filter t).map k) ρ τ) : wN (lcL g p f vs ds) ρ τ Q := by
  induction ds generalizing Q with
  | nil => exact wN_lcN.mpr q
  | cons d ds ih =>
    obtain ⟨ρ1, e1, e2, e3, e4⟩ := h d List.mem_cons_self
    have hr : ∀ d ∈ ds, _ := fun d m => h d (List.mem_cons_of_mem _ m)
    rw [wN_lcC]
    refine ⟨ρ1, e1, ?_⟩
    show wB p ρ1 τ _
    rw [wB_iff, e2, wV_some]
    by_cases ht : t d = true
    · rw [if_pos ht, wE_iff, e3 ht, wV_some, e4]
      rw [List.filter_cons_of_pos ht, List.map_cons] at q
      exact ih hr q
    · rw [if_neg ht, e4]
      rw [List.filter_cons_of_neg ht] at q
      exact ih hr q
/-! the tape -/
@[simp] theorem wE_tape {i : Nat} {k : Int} {Q : W → EnvD → Tape → Prop} : wE (tapeIx i k) ρ τ Q ↔ match look ρ i with
    | some (.val .tape) => if k = 0 then Q (.dat (.list (τ.cells.map .int))) ρ τ else if k = 1 then Q (.dat (.int τ.pos)) ρ τ else if k = 2 then Q (.dat (.int τ.cur)) ρ τ else False
    | _ => False := by
  rw [wE_iff]; unfold tapeIx look
  cases e : ρ[i]? with
  | none => simp
  | some o =>
    cases o with
    | none => simp
    | some s =>
      cases s with
      | val w =>
        cases w with
        | tape => simp only [wV_ite, wV_some, wV_none]
        | _ => simp
      | _ => simp
@[simp] theorem wS_tape {i : Nat} {k : Int} {Q : Out → Prop} : wS (tapeS i k f) ρ τ Q ↔ wE f ρ τ fun w ρ1 τ1 => match look ρ1 i, w with
    | some (.val .tape), .dat (.int n) => if k = 1 then Q (.nx ρ1 ⟨τ1.cells, n, τ1.cur⟩) else if k = 2 then Q (.nx ρ1 ⟨τ1.cells, τ1.pos, n⟩) else False
    | _, _ => False := by
  simp only [wS_iff, wE_iff, tapeS, wV_bind]
  refine wV_congr fun r => ?_
  obtain ⟨w, ρ1, τ1⟩ := r
  unfold look
  cases e : ρ1[i]? with
  | none => simp
  | some o =>
    cases o with
    | none => simp
    | some s =>
      cases s with
      | val w2 =>
        cases w2 with
        | tape =>
          cases w with
          | dat d =>
            cases d with
            | int n => simp only [wV_ite, wV_some, wV_none]
            | _ => simp
          | _ => simp
        | _ => simp
      | _ => simp
/-! owned lists -/
@[simp] theorem wS_app {i : Nat} {Q : Out → Prop} : wS (appS i f) ρ τ Q ↔ wV (ownAt ρ i) fun _ => wE f ρ τ fun w ρ1 τ1 => wV (ownAt ρ1 i) fun ds => match w with
    | .dat d => ds.length < 16777216 ∧ Q (.nx (ρ1.set i (some (.own (ds ++ [d])))) τ1)
    | _ => False := by
  simp only [wS_iff, wE_iff, appS, wV_bind]
  refine wV_congr fun _ => wV_congr fun r => wV_congr fun ds => ?_
  obtain ⟨w, ρ1, τ1⟩ := r
  cases w with
  | dat d => simp only [wV_if]
  | tape => simp
  | dct _ => simp
@[simp] theorem wS_setIx {i : Nat} {Q : Out → Prop} : wS (setIxS i f g) ρ τ Q ↔ wE f ρ τ fun w ρ1 τ1 => wV (ownAt ρ1 i) fun _ => wE g ρ1 τ1 fun v ρ2 τ2 => wV (ownAt ρ2 i) fun ds => match w, v with
    | .dat d, .dat (.int k) => wV (L2.ixN ds.length k) fun n => Q (.nx (ρ2.set i (some (.own (ds.set n d)))) τ2)
    | _, _ => False := by
  simp only [wS_iff, wE_iff, setIxS, wV_bind]
  refine wV_congr fun r => wV_congr fun _ => wV_congr fun s => wV_congr fun ds => ?_
  obtain ⟨w, ρ1, τ1⟩ := r
  obtain ⟨v, ρ2, τ2⟩ := s
  cases w with
  | dat d =>
    cases v with
    | dat e =>
      cases e with
      | int k => simp only [wV_map]
      | _ => simp
    | tape => simp
    | dct _ => simp
  | tape => simp
  | dct _ => simp
@[simp] theorem wS_popAt {i : Nat} {Q : Out → Prop} : wS (popAtS i f) ρ τ Q ↔ wV (ownAt ρ i) fun _ => wE f ρ τ fun w ρ1 τ1 => wV (ownAt ρ1 i) fun ds => match w with
    | .dat (.int k) => (0 ≤ k ∧ k < ds.length ∧ ds.length < 16777216) ∧ Q (.nx (ρ1.set i (some (.own (ds.eraseIdx k.toNat)))) τ1)
    | _ => False := by
  simp only [wS_iff, wE_iff, popAtS, wV_bind]
  refine wV_congr fun _ => wV_congr fun r => wV_congr fun ds => ?_
  obtain ⟨w, ρ1, τ1⟩ := r
  cases w with
  | dat d =>
    cases d with
    | int k => simp only [wV_if]
    | _ => simp
  | tape => simp
  | dct _ => simp
@[simp] theorem wS_ins {i : Nat} {Q : Out → Prop} : wS (insS i f g) ρ τ Q ↔ wV (ownAt ρ i) fun _ => wE f ρ τ fun w ρ1 τ1 => wE g ρ1 τ1 fun v ρ2 τ2 => wV (ownAt ρ2 i) fun ds => match w, v with
    | .dat (.int k), .dat d => (0 ≤ k ∧ k < 9223372036854775808 ∧ ds.length < 16777216) ∧ Q (.nx (ρ2.set i (some (.own (ds.take k.toNat ++ [d] ++ ds.drop k.toNat)))) τ2)
    | _, _ => False := by
  simp only [wS_iff, wE_iff, insS, wV_bind]
  refine wV_congr fun _ => wV_congr fun r => wV_congr fun s => wV_congr fun ds => ?_
  obtain ⟨w, ρ1, τ1⟩ := r
  obtain ⟨v, ρ2, τ2⟩ := s
  cases w with
  | dat d =>
    cases d with
    | int k =>
      cases v with
      | dat e => simp only [wV_if]
      | tape => simp
      | dct _ => simp
    | _ => simp
  | tape => simp
  | dct _ => simp
@[simp] theorem ownAt_0 {x : Option Sl} {r : EnvD} : ownAt (x :: r) 0 = (match x with | some (.own ds) => some ds | _ => none) := by cases x with
  | none => rfl
  | some s => cases s <;> rfl
@[simp] theorem ownAt_s {x : Option Sl} {r : EnvD} {i : Nat} : ownAt (x :: r) (i + 1) = ownAt r i := rfl
end
end ND

set_option Elab.async false
set_option linter.all false
set_option maxRecDepth 100000
set_option maxHeartbeats 4000000
/-! ND14: the operations on known data. -/
namespace ND
open PySem PySem.Spec PySem.SeqAt
section
variable {i j : Int} {a b : Bool} {xs ys : List PyData} {x y : Str} {d e : PyData}
theorem shaped_int : shaped (.int i) = true := rfl
theorem shaped_bool : shaped (.bool b) = true := rfl
theorem shaped_none : shaped .none = true := rfl
@[simp] theorem ltW_int : ltW (.dat (.int i)) (.dat (.int j)) = some (.dat (.bool (decide (i < j)))) := by
  have h : PySem.W.dataLt (.int i) (.int j) = decide (i < j) := PySem.W.dataLt_int i j
  show Option.map W.dat (ltP (.int i) (.int j)) = _
  unfold ltP
  rw [if_pos ⟨rfl, rfl, show (0 : Nat) ≤ 64 by decide⟩, h]
  rfl
@[simp] theorem leW_int : leW (.dat (.int i)) (.dat (.int j)) = some (.dat (.bool (decide (i ≤ j)))) := rfl
@[simp] theorem gtW_int : gtW (.dat (.int i)) (.dat (.int j)) = some (.dat (.bool (decide (j < i)))) := rfl
@[simp] theorem geW_int : geW (.dat (.int i)) (.dat (.int j)) = some (.dat (.bool (decide (j ≤ i)))) := rfl
@[simp] theorem eqW_int : eqW (.dat (.int i)) (.dat (.int j)) = some (.dat (.bool (decide (i = j)))) := by
  show Option.map W.dat (eqP (.int i) (.int j)) = _
  unfold eqP
  rw [if_pos ⟨rfl, rfl⟩]
  show some (W.dat (.bool (i == j))) = _
  congr
@[simp] theorem neW_int : neW (.dat (.int i)) (.dat (.int j)) = some (.dat (.bool (!decide (i = j)))) := by
  show Option.map W.dat (neP (.int i) (.int j)) = _
  unfold neP
  rw [if_pos ⟨rfl, rfl⟩]
  show some (W.dat (.bool (!(i == j)))) = _
  congr
theorem eqW_data (h : shaped d = true) (h2 : shaped e = true) : eqW (.dat d) (.dat e) = some (.dat (.bool (PyData.eqv d e))) := by
  show Option.map W.dat (eqP d e) = _
  unfold eqP
  rw [if_pos ⟨h, h2⟩]
  rfl
theorem neW_data (h : shaped d = true) (h2 : shaped e = true) : neW (.dat d) (.dat e) = some (.dat (.bool (!PyData.eqv d e))) := by
  show Option.map W.dat (neP d e) = _
  unfold neP
  rw [if_pos ⟨h, h2⟩]
  rfl
@[simp] theorem addW_int : addW (.dat (.int i)) (.dat (.int j)) = some (.dat (.int (i + j))) := rfl
@[simp] theorem subW_int : subW (.dat (.int i)) (.dat (.int j)) = some (.dat (.int (i - j))) := rfl
@[simp] theorem negF_int : negF (.dat (.int i)) = some (.dat (.int (-i))) := rfl
@[simp] theorem mulW_int {Q : W → Prop} : wV (mulW (.dat (.int i)) (.dat (.int j))) Q ↔ (i.natAbs < 18446744073709551616 ∨ j.natAbs < 18446744073709551616) ∧ Q (.dat (.int (i * j))) := by
  show wV (Option.map W.dat (mulP (.int i) (.int j))) Q ↔ _
  unfold mulP
  rw [wV_map, wV_if]
@[simp] theorem fdivW_int {Q : W → Prop} : wV (fdivW (.dat (.int i)) (.dat (.int j))) Q ↔ (0 < j ∧ j < 18446744073709551616) ∧ Q (.dat (.int (i / j))) := by
  show wV (Option.map W.dat (fdivP (.int i) (.int j))) Q ↔ _
  unfold fdivP
  rw [wV_map, wV_if]
@[simp] theorem modW_int {Q : W → Prop} : wV (modW (.dat (.int i)) (.dat (.int j))) Q ↔ 0 < j ∧ Q (.dat (.int (i % j))) := by
  show wV (Option.map W.dat (modP (.int i) (.int j))) Q ↔ _
  unfold modP
  rw [wV_map, wV_if]
@[simp] theorem powW_int {Q : W → Prop} : wV (powW (.dat (.int i)) (.dat (.int j))) Q ↔ (0 ≤ j ∧ j ≤ 1000 ∧ i.natAbs < 18446744073709551616) ∧ Q (.dat (.int (i ^ j.toNat))) := by
  show wV (Option.map W.dat (powP (.int i) (.int j))) Q ↔ _
  unfold powP
  rw [wV_map, wV_if]
@[simp] theorem addW_tup {Q : W → Prop} : wV (addW (.dat (.tuple xs)) (.dat (.tuple ys))) Q ↔ xs.length + ys.length ≤ 16777216 ∧ Q (.dat (.tuple (xs ++ ys))) := by
  show wV (Option.map W.dat (addP (.tuple xs) (.tuple ys))) Q ↔ _
  unfold addP
  rw [wV_map, wV_if]
@[simp] theorem addW_list {Q : W → Prop} : wV (addW (.dat (.list xs)) (.dat (.list ys))) Q ↔ xs.length + ys.length ≤ 16777216 ∧ Q (.dat (.list (xs ++ ys))) := by
  show wV (Option.map W.dat (addP (.list xs) (.list ys))) Q ↔ _
  unfold addP
  rw [wV_map, wV_if]
@[simp] theorem addW_str {Q : W → Prop} : wV (addW (.dat (.str x)) (.dat (.str y))) Q ↔ x.length + y.length ≤ 16777216 ∧ Q (.dat (.str (x ++ y))) := by
  show wV (Option.map W.dat (addP (.str x) (.str y))) Q ↔ _
  unfold addP
  rw [wV_map, wV_if]
@[simp] theorem addV_list {Q : List PyData → Prop} : wV (addV (.dat (.list xs)) (.dat (.list ys))) Q ↔ xs.length + ys.length ≤ 16777216 ∧ Q (xs ++ ys) := by
  show wV (ite _ _ _) Q ↔ _
  rw [wV_if]
@[simp] theorem ixW_list : ixW (.dat (.list xs)) (.dat (.int i)) = (L2.atI xs i).map .dat := rfl
@[simp] theorem ixW_tup : ixW (.dat (.tuple xs)) (.dat (.int i)) = (L2.atI xs i).map .dat := rfl
@[simp] theorem isiW_dat {ts : List String} : isiW ts (.dat d) = some (.dat (.bool (ts.any fun t => isT t d))) := rfl
@[simp] theorem lenF_list : lenF [.dat (.list xs)] = some (.dat (.int xs.length)) := rfl
@[simp] theorem lenF_tup : lenF [.dat (.tuple xs)] = some (.dat (.int xs.length)) := rfl
@[simp] theorem lenF_str {Q : W → Prop} : wV (lenF [.dat (.str x)]) Q ↔ x.length ≤ 16777216 ∧ Q (.dat (.int x.length)) := by
  show wV (ite _ _ _) Q ↔ _
  rw [wV_if]
@[simp] theorem tupleF_list : tupleF [.dat (.list xs)] = some (.dat (.tuple xs)) := rfl
@[simp] theorem tupleF_tup : tupleF [.dat (.tuple xs)] = some (.dat (.tuple xs)) := rfl
@[simp] theorem listV_list : listV [.dat (.list xs)] = some xs := rfl
@[simp] theorem listV_tup : listV [.dat (.tuple xs)] = some xs := rfl
@[simp] theorem itemsOf_list : itemsOf (.dat (.list xs)) = some xs := rfl
@[simp] theorem itemsOf_tup : itemsOf (.dat (.tuple xs)) = some xs := rfl
@[simp] theorem enumV_list : enumV [.dat (.list xs)] = some (enumD xs) := rfl
@[simp] theorem enumV_tup : enumV [.dat (.tuple xs)] = some (enumD xs) := rfl
@[simp] theorem zipV_list : zipV [.dat (.list xs), .dat (.list ys)] = some (zipD xs ys) := rfl
@[simp] theorem zipV_tup : zipV [.dat (.tuple xs), .dat (.tuple ys)] = some (zipD xs ys) := rfl
@[simp] theorem revW_list : revW (.dat (.list xs)) = some (.dat (.list xs.reverse)) := rfl
@[simp] theorem revW_tup : revW (.dat (.tuple xs)) = some (.dat (.tuple xs.reverse)) := rfl
@[simp] theorem slP_list {lo hi : Option Int} : slP (.list xs) lo hi = some (.list (cutD xs lo hi)) := rfl
@[simp] theorem slP_tup {lo hi : Option Int} : slP (.tuple xs) lo hi = some (.tuple (cutD xs lo hi)) := rfl
@[simp] theorem slP_str {lo hi : Option Int} {Q : PyData → Prop} : wV (slP (.str x) lo hi) Q ↔ x.length ≤ 16777216 ∧ Q (.str (L2.cutS x lo hi)) := by
  show wV (ite _ _ _) Q ↔ _
  rw [wV_if]
@[simp] theorem datsOf_nil : datsOf [] = some [] := rfl
@[simp] theorem datsOf_cons {ws : List W} {Q : List PyData → Prop} : wV (datsOf (.dat d :: ws)) Q ↔ wV (datsOf ws) fun ds => Q (d :: ds) := by
  show wV (Option.map _ _) Q ↔ _
  rw [wV_map]
@[simp] theorem sorted_list {Q : W → Prop} : wV (sortedF [.dat (.list xs)]) Q ↔ sortOk xs = true ∧ Q (.dat (.list (sortD xs))) := by
  show wV (ite _ _ _) Q ↔ _
  rw [wV_if]
@[simp] theorem sorted_tup {Q : W → Prop} : wV (sortedF [.dat (.tuple xs)]) Q ↔ sortOk xs = true ∧ Q (.dat (.list (sortD xs))) := by
  show wV (ite _ _ _) Q ↔ _
  rw [wV_if]
@[simp] theorem rng1_int {Q : List PyData → Prop} : wV (rng1V [.dat (.int j)]) Q ↔ (-4611686018427387904 ≤ j ∧ j < 4611686018427387904) ∧ Q (rangeD 0 j.toNat) := by
  show wV (ite _ _ _) Q ↔ _
  rw [wV_if]
@[simp] theorem rng2_int {Q : List PyData → Prop} : wV (rng2V [.dat (.int i), .dat (.int j)]) Q ↔ ((-4611686018427387904 ≤ i ∧ i < 4611686018427387904) ∧ -4611686018427387904 ≤ j ∧ j < 4611686018427387904) ∧ Q (rangeD i (j - i).toNat) := by
  show wV (ite _ _ _) Q ↔ _
  rw [wV_if]
@[simp] theorem rg2_int {Q : List PyData → Prop} : wV (rg2V (.dat (.int i)) (.dat (.int j))) Q ↔ ((-4611686018427387904 ≤ i ∧ i < 4611686018427387904) ∧ (-4611686018427387904 ≤ j ∧ j < 4611686018427387904) ∧ (j - i).toNat ≤ 16777216) ∧ Q (rangeD i (j - i).toNat) := by
  show wV (ite _ _ _) Q ↔ _
  rw [wV_if]
@[simp] theorem allF_list : allF [.dat (.list xs)] = (bools xs).map fun bs => .dat (.bool (bs.all id)) := rfl
@[simp] theorem anyF_list : anyF [.dat (.list xs)] = (bools xs).map fun bs => .dat (.bool (bs.any id)) := rfl
@[simp] theorem max2_int : max2F [.dat (.int i), .dat (.int j)] = some (.dat (.int (if j > i then j else i))) := rfl
@[simp] theorem nameG_eq {k : Nat} {ρ : EnvD} : nameG k d ρ = some (ρ.set k (some (.val (.dat d)))) := rfl
@[simp] theorem tupG_2 {h : GFs} {ρ : EnvD} : tupG 2 h (.tuple [d, e]) ρ = h [d, e] ρ := rfl
@[simp] theorem consG_eq {g : GF} {h : GFs} {ρ : EnvD} {Q : EnvD → Prop} : wV (consG g h (d :: xs) ρ) Q ↔ wV (g d ρ) fun ρ1 => wV (h xs ρ1) Q := by
  show wV (Option.bind _ _) Q ↔ _
  rw [wV_bind]
@[simp] theorem nilG_eq {ρ : EnvD} : nilG [] ρ = some ρ := rfl
theorem bools_ok (bs : List Bool) : bools (bs.map .bool) = some bs := by
  induction bs with
  | nil => rfl
  | cons b bs ih => simp [bools, ih]
end
theorem wV_mapW {α β : Type} {k : α → β} {a : Option α} {Q : β → Prop} : wV (a.map k) Q ↔ wV a fun x => Q (k x) := wV_map
end ND

set_option Elab.async false
set_option linter.all false
set_option maxRecDepth 100000
set_option maxHeartbeats 4000000
/-! ND15: mirrors that do not look at the tape. -/
namespace ND
open PySem
/-- the tape is passed on, unread -/
def Pr {α : Type} (k : Tape → Option (α × Tape)) : Prop := ∀ τ τ', k τ' = (k τ).map fun r => (r.1, τ')
theorem Pr.same {α : Type} {k : Tape → Option (α × Tape)} (h : Pr k) {τ : Tape} {r : α × Tape} (e : k τ = some r) : r.2 = τ := by
  have := h τ τ
  rw [e] at this
  exact congrArg Prod.snd (Option.some.inj this)
theorem pr_pure {α : Type} (a : α) : Pr fun τ => some (a, τ) := fun _ _ => rfl
theorem pr_none {α : Type} : Pr (α := α) fun _ => none := fun _ _ => rfl
theorem pr_bind {α β : Type} {k : Tape → Option (α × Tape)} {g : α → Tape → Option (β × Tape)} (h : Pr k) (hg : ∀ a, Pr (g a)) : Pr fun τ => (k τ).bind fun r => g r.1 r.2 := fun τ τ' => by
  show (k τ').bind _ = Option.map _ ((k τ).bind _)
  rw [h τ τ']
  cases e : k τ with
  | none => rfl
  | some r =>
    have := h.same e
    show g r.1 τ' = Option.map _ (g r.1 r.2)
    rw [this]
    exact hg r.1 τ τ'
theorem pr_map {α β : Type} {k : Tape → Option (α × Tape)} {g : α → β} (h : Pr k) : Pr fun τ => (k τ).map fun r => (g r.1, r.2) := fun τ τ' => by
  show (k τ').map _ = Option.map _ ((k τ).map _)
  rw [h τ τ']
  cases k τ <;> rfl
theorem pr_opt {α β : Type} (o : Option α) {g : α → Tape → Option (β × Tape)} (hg : ∀ a, Pr (g a)) : Pr fun τ => o.bind fun a => g a τ := fun τ τ' => by
  cases o with
  | none => rfl
  | some a => exact hg a τ τ'
theorem pr_ite {α : Type} {c : Prop} [Decidable c] {k l : Tape → Option (α × Tape)} (h : Pr k) (hl : Pr l) : Pr fun τ => if c then k τ else l τ := fun τ τ' => by
  by_cases e : c
  · simp only [if_pos e]; exact h τ τ'
  · simp only [if_neg e]; exact hl τ τ'
def sw {α : Type} : α × EnvD × Tape → (α × EnvD) × Tape := fun r => ((r.1, r.2.1), r.2.2)
def PE' (α : Type) (f : EnvD → Tape → Option (α × EnvD × Tape)) : Prop := ∀ ρ, Pr fun τ => (f ρ τ).map sw
abbrev PuE (f : EF) : Prop := PE' W f
abbrev PuB (f : BF) : Prop := PE' Bool f
abbrev PuA (f : AF) : Prop := PE' (List W) f
abbrev PuN (f : FF) : Prop := PE' (List PyData) f
abbrev PuO (f : OF) : Prop := PE' (Option Int) f
inductive OutP where
  | nx (ρ : EnvD)
  | rt (w : W)
  | bk (ρ : EnvD)
  | ct (ρ : EnvD)
def swO : Out → OutP × Tape
  | .nx ρ τ => (.nx ρ, τ)
  | .rt w τ => (.rt w, τ)
  | .bk ρ τ => (.bk ρ, τ)
  | .ct ρ τ => (.ct ρ, τ)
def PuS (F : SF) : Prop := ∀ ρ, Pr fun τ => (F ρ τ).map swO
def PuF (F : List W → Tape → Option (W × Tape)) : Prop := ∀ ws, Pr fun τ => F ws τ
theorem Pr.cong {α : Type} {k l : Tape → Option (α × Tape)} (h : Pr k) (e : ∀ τ, l τ = k τ) : Pr l := by rw [show l = k from funext e]; exact h
section
variable {f g h : EF} {p q : BF} {ha hb : AF} {F G : SF} {k k1 : FF} {l u : OF}
theorem pu_bind {α β : Type} {f : EnvD → Tape → Option (α × EnvD × Tape)} {g : α → EnvD → Tape → Option (β × EnvD × Tape)} (h : PE' α f) (hg : ∀ a, PE' β (g a)) : PE' β fun ρ τ => (f ρ τ).bind fun r => g r.1 r.2.1 r.2.2 := fun ρ =>
  (pr_bind (h ρ) (g := fun a τ => (g a.1 a.2 τ).map sw) fun a => hg a.1 a.2).cong fun τ => by
    show Option.map sw (Option.bind (f ρ τ) _) = Option.bind (Option.map sw (f ρ τ)) _
    cases f ρ τ <;> rfl
theorem pu_opt {α β : Type} {f : EnvD → Tape → Option (α × EnvD × Tape)} {K : α → Option β} (h : PE' α f) : PE' β fun ρ τ => (f ρ τ).bind fun r => (K r.1).map fun w => (w, r.2.1, r.2.2) :=
  pu_bind h (g := fun a ρ τ => (K a).map fun w => (w, ρ, τ)) fun a ρ τ τ' => by
    show Option.map sw (Option.map _ (K a)) = Option.map _ (Option.map sw (Option.map _ (K a)))
    cases K a <;> rfl
theorem pu_ret {α : Type} (a : α) : PE' α fun ρ τ => some (a, ρ, τ) := fun ρ τ τ' => rfl
theorem pu_none {α : Type} : PE' α fun ρ τ => none := fun ρ τ τ' => rfl
theorem pu_var (i : Nat) : PuE (var i) := fun ρ τ τ' => by
  unfold var
  cases ρ[i]? with
  | none => rfl
  | some o =>
    cases o with
    | none => rfl
    | some s => cases s <;> rfl
theorem pu_bvar (i : Nat) : PuE (bvar i) := fun ρ τ τ' => by
  unfold bvar
  cases ρ[i]? with
  | none => rfl
  | some o =>
    cases o with
    | none => rfl
    | some s => cases s <;> rfl
theorem pu_cst (d : PyData) : PuE (cst d) := pu_ret _
theorem pu_op2 {K : W → W → Option W} (h1 : PuE f) (h2 : PuE g) : PuE (op2 K f g) := pu_bind h1 (g := fun a ρ τ => (g ρ τ).bind fun q => (K a q.1).map fun w => (w, q.2.1, q.2.2)) fun a => pu_opt (K := K a) h2
theorem pu_un1 {K : W → Option W} (h1 : PuE f) : PuE (un1 K f) := pu_opt h1
theorem pu_nilA : PuA nilA := pu_ret _
theorem pu_consA (h1 : PuE f) (h2 : PuA ha) : PuA (consA f ha) := pu_bind h1 (g := fun (a : W) (ρ : EnvD) (τ : Tape) => (ha ρ τ).map fun q : List W × EnvD × Tape => (a :: q.1, q.2.1, q.2.2)) fun a => fun ρ => by
  refine (pr_map (g := fun q : List W × EnvD => (a :: q.1, q.2)) (h2 ρ)).cong fun τ => ?_
  show Option.map sw (Option.map _ (ha ρ τ)) = Option.map _ (Option.map sw (ha ρ τ))
  cases ha ρ τ <;> rfl
theorem pu_callF {K : List W → Option W} (h1 : PuA ha) : PuE (callF K ha) := pu_opt h1
theorem pu_callD {K : List W → Tape → Option (W × Tape)} (hK : PuF K) (h1 : PuA ha) : PuE (callD K ha) := pu_bind h1 (g := fun a ρ τ => (K a τ).map fun q => (q.1, ρ, q.2)) fun a ρ => by
  refine (pr_map (g := fun q : W => (q, ρ)) (hK a)).cong fun τ => ?_
  show Option.map sw (Option.map _ (K a τ)) = Option.map _ (K a τ)
  cases K a τ <;> rfl
theorem pu_tst (h1 : PuE f) : PuB (tst f) := pu_bind h1 (g := fun w ρ τ => match w with
    | .dat (.bool b) => some (b, ρ, τ)
    | _ => none) fun a ρ τ τ' => by
  cases a with
  | dat d => cases d <;> rfl
  | _ => rfl
theorem pu_notB (h : PuB p) : PuB (notB p) := fun ρ => by
  refine (pr_map (g := fun q : Bool × EnvD => (!q.1, q.2)) (h ρ)).cong fun τ => ?_
  show Option.map sw (Option.map _ (p ρ τ)) = _
  cases p ρ τ <;> rfl
theorem pu_if {α : Type} {K L : EnvD → Tape → Option (α × EnvD × Tape)} (h : PuB p) (h1 : PE' α K) (h2 : PE' α L) : PE' α fun ρ τ => (p ρ τ).bind fun r => if r.1 = true then K r.2.1 r.2.2 else L r.2.1 r.2.2 :=
  pu_bind h (g := fun b ρ τ => if b = true then K ρ τ else L ρ τ) fun b ρ => by
    cases b
    · exact h2 ρ
    · exact h1 ρ
theorem pu_andB (h1 : PuB p) (h2 : PuB q) : PuB (andB p q) := pu_if h1 h2 (pu_ret false)
theorem pu_orB (h1 : PuB p) (h2 : PuB q) : PuB (orB p q) := pu_if h1 (pu_ret true) h2
theorem pu_yesB : PuB yesB := pu_ret _
theorem pu_wif {K L : EF} (h1 : PuE f) (hK : PuE K) (hL : PuE L) : PuE fun ρ τ => (f ρ τ).bind fun r => match r.1 with
    | .dat (.bool true) => K r.2.1 r.2.2
    | .dat (.bool false) => L r.2.1 r.2.2
    | _ => none := pu_bind h1 (g := fun w ρ τ => match w with
    | .dat (.bool true) => K ρ τ
    | .dat (.bool false) => L ρ τ
    | _ => none) fun a ρ => by
  cases a with
  | dat d =>
    cases d with
    | bool b =>
      cases b
      · exact hL ρ
      · exact hK ρ
    | _ => exact pr_none
  | _ => exact pr_none
theorem pu_andE (h1 : PuE f) (h2 : PuE g) : PuE (andE f g) := pu_wif h1 h2 (pu_ret _)
theorem pu_orE (h1 : PuE f) (h2 : PuE g) : PuE (orE f g) := pu_wif h1 (pu_ret _) h2
theorem pu_notE (h1 : PuE f) : PuE (notE f) := pu_bind (β := W) h1 (g := fun (w : W) (ρ : EnvD) (τ : Tape) => match w with
    | .dat (.bool b) => some (W.dat (.bool (!b)), ρ, τ)
    | _ => none) fun a ρ => by
  cases a with
  | dat d =>
    cases d with
    | bool b => exact fun _ _ => rfl
    | _ => exact fun _ _ => rfl
  | _ => exact fun _ _ => rfl
theorem pu_ifE (h : PuB p) (h1 : PuE f) (h2 : PuE g) : PuE (ifE p f g) := pu_if h h1 h2
def chainK (h : EF) (a b : W) : EF := fun ρ τ => match a, b with
  | .dat (.int i), .dat (.int j) => if i ≤ j then (h ρ τ).bind fun s => match s.1 with
      | .dat (.int l) => some (W.dat (.bool (decide (j ≤ l))), s.2.1, s.2.2)
      | _ => none
    else some (W.dat (.bool false), ρ, τ)
  | _, _ => none
theorem pu_chainK (h3 : PuE h) (a b : W) : PuE (chainK h a b) := by
  cases a with
  | dat d =>
    cases d with
    | int i =>
      cases b with
      | dat e =>
        cases e with
        | int j =>
          by_cases c : i ≤ j
          · have e : chainK h (.dat (.int i)) (.dat (.int j)) = fun ρ τ => (h ρ τ).bind fun s => match s.1 with
                | .dat (.int l) => some (W.dat (.bool (decide (j ≤ l))), s.2.1, s.2.2)
                | _ => none := by funext ρ τ; exact if_pos c
            rw [e]
            exact pu_bind (β := W) h3 (g := fun (w : W) (ρ : EnvD) (τ : Tape) => match w with
              | .dat (.int l) => some (W.dat (.bool (decide (j ≤ l))), ρ, τ)
              | _ => none) fun a ρ => by
                cases a with
                | dat d =>
                  cases d with
                  | int b => exact fun _ _ => rfl
                  | _ => exact fun _ _ => rfl
                | _ => exact fun _ _ => rfl
          · have e : chainK h (.dat (.int i)) (.dat (.int j)) = fun ρ τ => some (W.dat (.bool false), ρ, τ) := by funext ρ τ; exact if_neg c
            rw [e]
            exact pu_ret _
        | _ => exact fun _ _ _ => rfl
      | _ => exact fun _ _ _ => rfl
    | _ => exact fun _ _ _ => rfl
  | _ => exact fun _ _ _ => rfl
theorem pu_chain (h1 : PuE f) (h2 : PuE g) (h3 : PuE h) : PuE (chainLe f g h) := by
  have e : chainLe f g h = fun ρ τ => (f ρ τ).bind fun r => (g r.2.1 r.2.2).bind fun q => chainK h r.1 q.1 q.2.1 q.2.2 := by
    funext ρ τ
    rfl
  rw [e]
  exact pu_bind (β := W) h1 (g := fun (a : W) (ρ : EnvD) (τ : Tape) => (g ρ τ).bind fun q => chainK h a q.1 q.2.1 q.2.2) fun a => pu_bind (β := W) h2 (g := fun (b : W) => chainK h a b) fun b => pu_chainK h3 a b
theorem pu_optB {α β : Type} {f : EnvD → Tape → Option (α × EnvD × Tape)} {K : α → Option β} {G : EnvD → Tape → Option (β × EnvD × Tape)} (h : PE' α f) (e : ∀ ρ τ, G ρ τ = (f ρ τ).bind fun r => (K r.1).map fun w => (w, r.2.1, r.2.2)) : PE' β G := by
  rw [show G = _ from funext fun ρ => funext fun τ => e ρ τ]
  exact pu_opt h
theorem pu_tupF (h : PuA ha) : PuE (tupF ha) := pu_optB (K := fun ws => (datsOf ws).bind fun ds => if ds.length ≤ 16777216 then some (W.dat (.tuple ds)) else none) h fun ρ τ => by
  unfold tupF
  congr 1; funext r
  cases datsOf r.1 with
  | none => rfl
  | some ds => simp only [Option.bind_some]; split <;> rfl
theorem pu_lstN (h : PuA ha) : PuN (lstN ha) := pu_optB (K := fun ws => (datsOf ws).bind fun ds => if ds.length ≤ 16777216 then some ds else none) h fun ρ τ => by
  unfold lstN
  congr 1; funext r
  cases datsOf r.1 with
  | none => rfl
  | some ds => simp only [Option.bind_some]; split <;> rfl
theorem pu_ofN (h : PuN k) : PuE (ofN k) := pu_optB (K := fun ds => some (W.dat (.list ds))) h fun ρ τ => by
  unfold ofN
  cases k ρ τ <;> rfl
theorem pu_noO : PuO noO := pu_ret _
theorem pu_someO (h1 : PuE f) : PuO (someO f) := pu_optB (K := fun w => match w with
    | .dat (.int i) => some (some i)
    | _ => none) h1 fun ρ τ => by
  unfold someO
  congr 1; funext r
  obtain ⟨w, ρ1, τ1⟩ := r
  cases w with
  | dat d => cases d <;> rfl
  | _ => rfl
theorem pu_slF (h1 : PuE f) (h2 : PuO l) (h3 : PuO u) : PuE (slF f l u) := pu_bind (β := W) h1 (g := fun (a : W) (ρ : EnvD) (τ : Tape) => (l ρ τ).bind fun q => (u q.2.1 q.2.2).bind fun s => match a with
    | .dat d => (slP d q.1 s.1).map fun d' => (W.dat d', s.2.1, s.2.2)
    | _ => none) fun a => pu_bind (β := W) h2 (g := fun (lo : Option Int) (ρ : EnvD) (τ : Tape) => (u ρ τ).bind fun s => match a with
    | .dat d => (slP d lo s.1).map fun d' => (W.dat d', s.2.1, s.2.2)
    | _ => none) fun lo => pu_optB (K := fun hi => match a with
    | .dat d => (slP d lo hi).map W.dat
    | _ => none) h3 fun ρ τ => by
  congr 1; funext r
  cases a with
  | dat d =>
    show Option.map _ (slP d lo r.1) = Option.map _ (Option.map _ (slP d lo r.1))
    cases slP d lo r.1 <;> rfl
  | _ => rfl
theorem pu_seqI (h1 : PuE f) : PuN (seqI f) := pu_opt h1
theorem pu_rng1 (h1 : PuA ha) : PuN (rng1I ha) := pu_optB (K := rng1V) h1 fun ρ τ => by
  unfold rng1I
  congr 1; funext r
  obtain ⟨ws, ρ1, τ1⟩ := r
  unfold rng1V
  dsimp only
  split <;> (try split) <;> simp_all
theorem pu_rng2 (h1 : PuA ha) : PuN (rng2I ha) := pu_optB (K := rng2V) h1 fun ρ τ => by
  unfold rng2I
  congr 1; funext r
  obtain ⟨ws, ρ1, τ1⟩ := r
  unfold rng2V
  dsimp only
  split <;> (try split) <;> simp_all
theorem pu_zip (h1 : PuA ha) : PuN (zipI ha) := pu_optB (K := zipV) h1 fun ρ τ => by
  unfold zipI
  congr 1; funext r
  obtain ⟨ws, ρ1, τ1⟩ := r
  unfold zipV
  dsimp only
  split <;> simp_all
theorem pu_enum (h1 : PuA ha) : PuN (enumI ha) := pu_optB (K := enumV) h1 fun ρ τ => by
  unfold enumI
  congr 1; funext r
  obtain ⟨ws, ρ1, τ1⟩ := r
  unfold enumV
  dsimp only
  split <;> simp_all
theorem pu_listN (h1 : PuA ha) : PuN (listN ha) := pu_optB (K := listV) h1 fun ρ τ => by
  unfold listN
  congr 1; funext r
  obtain ⟨ws, ρ1, τ1⟩ := r
  unfold listV
  dsimp only
  split <;> simp_all
theorem pu_addN (h1 : PuE f) (h2 : PuE g) : PuN (addN f g) := pu_bind (β := List PyData) h1 (g := fun (a : W) (ρ : EnvD) (τ : Tape) => (g ρ τ).bind fun q => match a, q.1 with
    | .dat (.list a), .dat (.list b) => if a.length + b.length ≤ 16777216 then some (a ++ b, q.2.1, q.2.2) else none
    | _, _ => none) fun a => pu_optB (K := fun b => addV a b) h2 fun ρ τ => by
  congr 1; funext r
  obtain ⟨w, ρ1, τ1⟩ := r
  unfold addV
  dsimp only
  split <;> (try split) <;> simp_all
theorem pu_rg2D (h1 : PuE f) (h2 : PuE g) : PuN (rg2D f g) := pu_bind (β := List PyData) h1 (g := fun (a : W) (ρ : EnvD) (τ : Tape) => (g ρ τ).bind fun q => match a, q.1 with
    | .dat (.int i), .dat (.int j) => if (-4611686018427387904 ≤ i ∧ i < 4611686018427387904) ∧ (-4611686018427387904 ≤ j ∧ j < 4611686018427387904) ∧ (j - i).toNat ≤ 16777216 then some (rangeD i (j - i).toNat, q.2.1, q.2.2) else none
    | _, _ => none) fun a => pu_optB (K := fun b => rg2V a b) h2 fun ρ τ => by
  congr 1; funext r
  obtain ⟨w, ρ1, τ1⟩ := r
  unfold rg2V
  dsimp only
  split <;> (try split) <;> simp_all
theorem pu_lcL {gg : GF} {vs : List Nat} (h1 : PuB p) (h2 : PuE f) : ∀ ds, PE' (List PyData) (lcL gg p f vs ds)
  | [] => pu_ret _
  | d :: ds => fun ρ => by
    have ih := pu_lcL (gg := gg) (vs := vs) h1 h2 ds
    have e : ∀ τ, (lcL gg p f vs (d :: ds) ρ τ).map sw = (gg d ρ).bind fun ρ1 => ((p ρ1 τ).bind fun r => if r.1 = true then (f r.2.1 r.2.2).bind fun q => match q.1 with
        | .dat x => (lcL gg p f vs ds (wipeD q.2.1 vs) q.2.2).map fun s => (x :: s.1, s.2.1, s.2.2)
        | _ => none
      else lcL gg p f vs ds (wipeD r.2.1 vs) r.2.2).map sw := fun τ => by
      show Option.map sw (Option.bind (gg d ρ) _) = _
      cases gg d ρ <;> rfl
    refine (pr_opt (gg d ρ) (g := fun ρ1 τ => _) fun ρ1 => ?_).cong e
    refine pu_if h1 (K := fun ρ τ => (f ρ τ).bind fun q => match q.1 with
        | .dat x => (lcL gg p f vs ds (wipeD q.2.1 vs) q.2.2).map fun s => (x :: s.1, s.2.1, s.2.2)
        | _ => none) (L := fun ρ τ => lcL gg p f vs ds (wipeD ρ vs) τ) ?_ (fun ρ => ih _) ρ1
    refine pu_bind h2 (g := fun w ρ τ => match w with
        | .dat x => (lcL gg p f vs ds (wipeD ρ vs) τ).map fun s => (x :: s.1, s.2.1, s.2.2)
        | _ => none) fun a ρ => ?_
    cases a with
    | dat x =>
      refine (pr_map (g := fun q : List PyData × EnvD => (x :: q.1, q.2)) (ih (wipeD ρ vs))).cong fun τ => ?_
      show Option.map sw (Option.map _ (lcL gg p f vs ds (wipeD ρ vs) τ)) = Option.map _ (Option.map sw (lcL gg p f vs ds (wipeD ρ vs) τ))
      cases lcL gg p f vs ds (wipeD ρ vs) τ <;> rfl
    | _ => exact pr_none
theorem pu_lcN {gg : GF} {vs : List Nat} (h0 : PuN k) (h1 : PuB p) (h2 : PuE f) : PuN (lcN k gg p f vs) := pu_bind h0 (g := fun ds ρ τ => (lcL gg p f vs ds (wipeD ρ vs) τ).bind fun q => if q.1.length ≤ 16777216 then some (q.1, mergeD ρ q.2.1 vs, q.2.2) else none) fun ds ρ => by
  refine (pr_bind (pu_lcL (gg := gg) (vs := vs) h1 h2 ds (wipeD ρ vs)) (g := fun q τ => if q.1.length ≤ 16777216 then some ((q.1, mergeD ρ q.2 vs), τ) else none) fun q => pr_ite (pr_pure _) pr_none).cong fun τ => ?_
  show Option.map sw (Option.bind (lcL gg p f vs ds (wipeD ρ vs) τ) _) = Option.bind (Option.map sw (lcL gg p f vs ds (wipeD ρ vs) τ)) _
  cases lcL gg p f vs ds (wipeD ρ vs) τ with
  | none => rfl
  | some r =>
    obtain ⟨o, ρ1, τ1⟩ := r
    simp only [Option.bind_some, Option.map_some, sw]
    split <;> rfl
theorem pu_lc2L {gg g1 : GF} {vs vs1 : List Nat} (h0 : PuN k1) (h1 : PuB p) (h2 : PuE f) : ∀ ds, PE' (List PyData) (lc2L gg k1 g1 p f vs vs1 ds)
  | [] => pu_ret _
  | d :: ds => fun ρ => by
    have ih := pu_lc2L (gg := gg) (g1 := g1) (vs := vs) (vs1 := vs1) h0 h1 h2 ds
    have e : ∀ τ, (lc2L gg k1 g1 p f vs vs1 (d :: ds) ρ τ).map sw = (gg d ρ).bind fun ρ1 => ((k1 ρ1 τ).bind fun r => (lcL g1 p f vs1 r.1 (wipeD r.2.1 vs1) r.2.2).bind fun q => (lc2L gg k1 g1 p f vs vs1 ds (wipeD q.2.1 vs) q.2.2).map fun s => (q.1 ++ s.1, s.2.1, s.2.2)).map sw := fun τ => by
      show Option.map sw (Option.bind (gg d ρ) _) = _
      cases gg d ρ <;> rfl
    refine (pr_opt (gg d ρ) (g := fun ρ1 τ => _) fun ρ1 => ?_).cong e
    refine pu_bind h0 (g := fun a ρ τ => (lcL g1 p f vs1 a (wipeD ρ vs1) τ).bind fun q => (lc2L gg k1 g1 p f vs vs1 ds (wipeD q.2.1 vs) q.2.2).map fun s => (q.1 ++ s.1, s.2.1, s.2.2)) (fun a ρ => ?_) ρ1
    refine (pr_bind (pu_lcL (gg := g1) (vs := vs1) h1 h2 a (wipeD ρ vs1)) (g := fun q τ => ((lc2L gg k1 g1 p f vs vs1 ds (wipeD q.2 vs) τ).map sw).map fun s => ((q.1 ++ s.1.1, s.1.2), s.2)) fun q => pr_map (g := fun s : List PyData × EnvD => (q.1 ++ s.1, s.2)) (ih _)).cong fun τ => ?_
    show Option.map sw (Option.bind (lcL g1 p f vs1 a (wipeD ρ vs1) τ) _) = Option.bind (Option.map sw (lcL g1 p f vs1 a (wipeD ρ vs1) τ)) _
    cases lcL g1 p f vs1 a (wipeD ρ vs1) τ with
    | none => rfl
    | some r =>
      show Option.map sw (Option.map _ (lc2L gg k1 g1 p f vs vs1 ds (wipeD r.2.1 vs) r.2.2)) = Option.map _ (Option.map sw (lc2L gg k1 g1 p f vs vs1 ds (wipeD r.2.1 vs) r.2.2))
      cases lc2L gg k1 g1 p f vs vs1 ds (wipeD r.2.1 vs) r.2.2 <;> rfl
theorem pu_lc2N {gg g1 : GF} {vs vs1 : List Nat} (h : PuN k) (h0 : PuN k1) (h1 : PuB p) (h2 : PuE f) : PuN (lc2N k gg k1 g1 p f vs vs1) := pu_bind h (g := fun ds ρ τ => (lc2L gg k1 g1 p f vs vs1 ds (wipeD ρ vs) τ).bind fun q => if q.1.length ≤ 16777216 then some (q.1, mergeD ρ q.2.1 vs, q.2.2) else none) fun ds ρ => by
  refine (pr_bind (pu_lc2L (gg := gg) (g1 := g1) (vs := vs) (vs1 := vs1) h0 h1 h2 ds (wipeD ρ vs)) (g := fun q τ => if q.1.length ≤ 16777216 then some ((q.1, mergeD ρ q.2 vs), τ) else none) fun q => pr_ite (pr_pure _) pr_none).cong fun τ => ?_
  show Option.map sw (Option.bind (lc2L gg k1 g1 p f vs vs1 ds (wipeD ρ vs) τ) _) = Option.bind (Option.map sw (lc2L gg k1 g1 p f vs vs1 ds (wipeD ρ vs) τ)) _
  cases lc2L gg k1 g1 p f vs vs1 ds (wipeD ρ vs) τ with
  | none => rfl
  | some r =>
    obtain ⟨o, ρ1, τ1⟩ := r
    simp only [Option.bind_some, Option.map_some, sw]
    split <;> rfl
/-! statements -/
theorem pu_bindS {α : Type} {f : EnvD → Tape → Option (α × EnvD × Tape)} {g : α → SF} (h : PE' α f) (hg : ∀ a, PuS (g a)) : PuS fun ρ τ => (f ρ τ).bind fun r => g r.1 r.2.1 r.2.2 := fun ρ =>
  (pr_bind (h ρ) (g := fun a τ => (g a.1 a.2 τ).map swO) fun a => hg a.1 a.2).cong fun τ => by
    show Option.map swO (Option.bind (f ρ τ) _) = Option.bind (Option.map sw (f ρ τ)) _
    cases f ρ τ <;> rfl
theorem pu_retO (K : EnvD → Option OutP) {F : SF} (e : ∀ ρ τ, (F ρ τ).map swO = (K ρ).map fun o => (o, τ)) : PuS F := fun ρ τ τ' => by
  show (F ρ τ').map swO = Option.map _ ((F ρ τ).map swO)
  rw [e, e]
  cases K ρ <;> rfl
theorem pu_skipS : PuS skipS := pu_retO (fun ρ => some (.nx ρ)) fun _ _ => rfl
theorem pu_brkS : PuS brkS := pu_retO (fun ρ => some (.bk ρ)) fun _ _ => rfl
theorem pu_cntS : PuS cntS := pu_retO (fun ρ => some (.ct ρ)) fun _ _ => rfl
theorem pu_stuckS : PuS stuckS := pu_retO (fun ρ => none) fun _ _ => rfl
theorem pu_retS (h : PuE f) : PuS (retS f) := fun ρ => (pr_map (g := fun a : W × EnvD => OutP.rt a.1) (h ρ)).cong fun τ => by
  show Option.map swO (Option.map _ (f ρ τ)) = _
  cases f ρ τ <;> rfl
theorem pu_setS {i : Nat} (h : PuE f) : PuS (setS i f) := fun ρ => (pr_map (g := fun a : W × EnvD => OutP.nx (a.2.set i (some (.val a.1)))) (h ρ)).cong fun τ => by
  show Option.map swO (Option.map _ (f ρ τ)) = _
  cases f ρ τ <;> rfl
theorem pu_ownS {i : Nat} (h : PuN k) : PuS (ownS i k) := fun ρ => (pr_map (g := fun a : List PyData × EnvD => OutP.nx (a.2.set i (some (.own a.1)))) (h ρ)).cong fun τ => by
  show Option.map swO (Option.map _ (k ρ τ)) = _
  cases k ρ τ <;> rfl
theorem pu_ifS (h : PuB p) (h1 : PuS F) (h2 : PuS G) : PuS (ifS p F G) := pu_bindS h (g := fun b ρ τ => if b = true then F ρ τ else G ρ τ) fun b => by
  cases b
  · exact h2
  · exact h1
def afterO (A B : SF) (C D : EnvD → OutP) (rt : W → OutP) : OutP → Tape → Option (OutP × Tape)
  | .nx ρ, τ => (A ρ τ).map swO
  | .ct ρ, τ => (B ρ τ).map swO
  | .bk ρ, τ => some (C ρ, τ)
  | .rt w, τ => some (rt w, τ)
theorem pu_seqS (h1 : PuS F) (h2 : PuS G) : PuS (seqS F G) := fun ρ => (pr_bind (h1 ρ) (g := fun o τ => match o with
    | .nx ρ' => (G ρ' τ).map swO
    | .rt w => some (.rt w, τ)
    | .bk ρ' => some (.bk ρ', τ)
    | .ct ρ' => some (.ct ρ', τ)) fun o => by
      cases o with
      | nx ρ' => exact h2 ρ'
      | _ => exact pr_pure _).cong fun τ => by
  show Option.map swO (Option.bind (F ρ τ) _) = _
  cases F ρ τ with
  | none => rfl
  | some o => cases o <;> rfl
theorem pu_forL {gg : GF} (h : PuS F) : ∀ ds, PuS (forL gg F ds)
  | [] => pu_skipS
  | d :: ds => fun ρ => by
    have ih := pu_forL (gg := gg) h ds
    have e : ∀ τ, (forL gg F (d :: ds) ρ τ).map swO = (gg d ρ).bind fun ρ1 => (((F ρ1 τ).map swO).bind fun o => (match o.1 with
      | .nx ρ' => (forL gg F ds ρ' o.2).map swO
      | .ct ρ' => (forL gg F ds ρ' o.2).map swO
      | .bk ρ' => some (.nx ρ', o.2)
      | .rt w => some (.rt w, o.2))) := fun τ => by
      show Option.map swO (Option.bind (gg d ρ) _) = _
      cases gg d ρ with
      | none => rfl
      | some ρ1 =>
        show Option.map swO (Option.bind (F ρ1 τ) _) = Option.bind (Option.map swO (F ρ1 τ)) _
        cases F ρ1 τ with
        | none => rfl
        | some o => cases o <;> rfl
    refine (pr_opt (gg d ρ) (g := fun ρ1 τ => _) fun ρ1 => ?_).cong e
    refine pr_bind (h ρ1) (g := fun o τ => (match o with
      | .nx ρ' => (forL gg F ds ρ' τ).map swO
      | .ct ρ' => (forL gg F ds ρ' τ).map swO
      | .bk ρ' => some (OutP.nx ρ', τ)
      | .rt w => some (.rt w, τ))) fun o => ?_
    cases o with
    | nx ρ' => exact ih ρ'
    | ct ρ' => exact ih ρ'
    | _ => exact pr_pure _
theorem pu_forS {gg : GF} (h0 : PuN k) (h : PuS F) : PuS (forS k gg F) := pu_bindS h0 (g := fun ds => forL gg F ds) fun ds => pu_forL h ds
theorem pu_whileS (h0 : PuB p) (h : PuS F) : ∀ n, PuS (whileS p F n)
  | 0 => pu_stuckS
  | n + 1 => by
    have ih := pu_whileS h0 h n
    refine pu_bindS h0 (g := fun b ρ τ => if b = true then (F ρ τ).bind fun o => match o with
      | .nx ρ' τ' => whileS p F n ρ' τ'
      | .ct ρ' τ' => whileS p F n ρ' τ'
      | .bk ρ' τ' => some (.nx ρ' τ')
      | .rt w τ' => some (.rt w τ')
      else some (.nx ρ τ)) fun b => ?_
    cases b with
    | false => exact pu_skipS
    | true =>
      intro ρ
      refine (pr_bind (h ρ) (g := fun o τ => (match o with
        | .nx ρ' => (whileS p F n ρ' τ).map swO
        | .ct ρ' => (whileS p F n ρ' τ).map swO
        | .bk ρ' => some (OutP.nx ρ', τ)
        | .rt w => some (.rt w, τ))) fun o => ?_).cong fun τ => ?_
      · cases o with
        | nx ρ' => exact ih ρ'
        | ct ρ' => exact ih ρ'
        | _ => exact pr_pure _
      · show Option.map swO (Option.bind (F ρ τ) _) = Option.bind (Option.map swO (F ρ τ)) _
        cases F ρ τ with
        | none => rfl
        | some o => cases o <;> rfl
theorem pu_appS {i : Nat} (h : PuE f) : PuS (appS i f) := fun ρ => by
  refine (pr_opt (ownAt ρ i) (g := fun _ τ => ((f ρ τ).map sw).bind fun r => (ownAt r.1.2 i).bind fun ds => match r.1.1 with
    | .dat d => if ds.length < 16777216 then some (OutP.nx (r.1.2.set i (some (.own (ds ++ [d])))), r.2) else none
    | _ => none) fun _ => pr_bind (h ρ) (g := fun r τ => (ownAt r.2 i).bind fun ds => match r.1 with
    | .dat d => if ds.length < 16777216 then some (OutP.nx (r.2.set i (some (.own (ds ++ [d])))), τ) else none
    | _ => none) fun r => pr_opt _ fun ds => ?_).cong fun τ => ?_
  · cases r.1 with
    | dat d => exact pr_ite (pr_pure _) pr_none
    | _ => exact pr_none
  · show Option.map swO (Option.bind (ownAt ρ i) _) = _
    cases ownAt ρ i with
    | none => rfl
    | some _ =>
      show Option.map swO (Option.bind (f ρ τ) _) = Option.bind (Option.map sw (f ρ τ)) _
      cases f ρ τ with
      | none => rfl
      | some r =>
        show Option.map swO (Option.bind (ownAt r.2.1 i) _) = Option.bind (ownAt r.2.1 i) _
        cases ownAt r.2.1 i with
        | none => rfl
        | some ds =>
          obtain ⟨w, ρ1, τ1⟩ := r
          cases w with
          | dat d =>
            show Option.map swO (if _ then _ else _) = if _ then _ else _
            split <;> rfl
          | _ => rfl
theorem pu_fn {n N : Nat} (h : PuS F) : PuF (fnF n N F) := fun ws => by
  by_cases e : ws.length = n
  · refine (pr_bind (h (startD N ws)) (g := fun o τ => match o with
      | .rt w => some (w, τ)
      | .nx _ => some (W.dat .none, τ)
      | _ => none) fun o => ?_).cong fun τ => ?_
    · cases o with
      | rt w => exact pr_pure _
      | nx _ => exact pr_pure _
      | _ => exact pr_none
    · show (if ws.length = n then _ else none) = _
      rw [if_pos e]
      cases F (startD N ws) τ with
      | none => rfl
      | some o => cases o <;> rfl
  · refine pr_none.cong fun τ => ?_
    show (if ws.length = n then _ else none) = _
    rw [if_neg e]
theorem pu_f0 : PuF fun _ _ => none := fun _ => pr_none
/-- from one tape to all -/
theorem PuF.run {K : List W → Tape → Option (W × Tape)} (h : PuF K) {ws : List W} {w : W} {τ0 τ1 : Tape} (e : K ws τ0 = some (w, τ1)) (τ : Tape) : K ws τ = some (w, τ) := by
  have q : K ws τ = (K ws τ0).map fun r => (r.1, τ) := h ws τ0 τ
  rw [q, e]
  rfl
end
end ND

set_option Elab.async false
set_option linter.all false
set_option maxRecDepth 100000
set_option maxHeartbeats 4000000
/-! ND16: more statements that do not look at the tape; their steps -/
namespace ND
open PySem
section
variable {f g h : EF} {p q : BF} {ha hb : AF} {F G : SF} {k k1 : FF} {ρ : EnvD} {τ : Tape}
theorem pu_parS {is : List Nat} (h : PuA ha) : PuS (parS is ha) := fun ρ => by
  refine (pr_bind (h ρ) (g := fun r τ => if r.1.length = is.length then some (OutP.nx ((is.zip r.1).foldl (fun ρ q => ρ.set q.1 (some (.val q.2))) r.2), τ) else none) fun r => pr_ite (pr_pure _) pr_none).cong fun τ => ?_
  show Option.map swO (Option.bind (ha ρ τ) _) = Option.bind (Option.map sw (ha ρ τ)) _
  cases ha ρ τ with
  | none => rfl
  | some r =>
    simp only [Option.bind_some, Option.map_some, sw]
    split <;> rfl
theorem pu_unpS {gg : GF} (h : PuE f) : PuS (unpS f gg) := fun ρ => by
  refine (pr_bind (h ρ) (g := fun r τ => match r.1 with
    | .dat d => (gg d r.2).map fun ρ' => (OutP.nx ρ', τ)
    | _ => none) fun r => ?_).cong fun τ => ?_
  · cases r.1 with
    | dat d => intro τ τ'; show Option.map _ (gg d r.2) = Option.map _ (Option.map _ (gg d r.2)); cases gg d r.2 <;> rfl
    | _ => exact pr_none
  · show Option.map swO (Option.bind (f ρ τ) _) = Option.bind (Option.map sw (f ρ τ)) _
    cases f ρ τ with
    | none => rfl
    | some r =>
      obtain ⟨w, ρ1, τ1⟩ := r
      cases w with
      | dat d =>
        show Option.map swO (Option.map _ (gg d ρ1)) = Option.map _ (gg d ρ1)
        cases gg d ρ1 <;> rfl
      | _ => rfl
def augAt (ρ : EnvD) (i : Nat) : Option Int := match ρ[i]? with
  | some (some (.val (.dat (.int n)))) => some n
  | _ => none
theorem augS_eq {i : Nat} : augS i f ρ τ = (augAt ρ i).bind fun n => (f ρ τ).bind fun r => match r.1 with
    | .dat (.int m) => some (.nx (r.2.1.set i (some (.val (.dat (.int (n + m)))))) r.2.2)
    | _ => none := by
  unfold augS augAt
  cases e : ρ[i]? with
  | none => rfl
  | some o =>
    cases o with
    | none => rfl
    | some s =>
      cases s with
      | val w =>
        cases w with
        | dat d => cases d <;> rfl
        | tape => rfl
        | dct _ => rfl
      | own _ => rfl
      | ownD _ => rfl
theorem pu_augS {i : Nat} (h : PuE f) : PuS (augS i f) := fun ρ => by
  refine (pr_opt (augAt ρ i) (g := fun n τ => ((f ρ τ).map sw).bind fun r => match r.1.1 with
    | .dat (.int m) => some (OutP.nx (r.1.2.set i (some (.val (.dat (.int (n + m)))))), r.2)
    | _ => none) fun n => pr_bind (h ρ) (g := fun r τ => match r.1 with
    | .dat (.int m) => some (OutP.nx (r.2.set i (some (.val (.dat (.int (n + m)))))), τ)
    | _ => none) fun r => ?_).cong fun τ => ?_
  · obtain ⟨w, ρ1⟩ := r
    cases w with
    | dat d =>
      cases d with
      | int m => exact pr_pure _
      | _ => exact pr_none
    | _ => exact pr_none
  · rw [augS_eq]
    cases augAt ρ i with
    | none => rfl
    | some n =>
      show Option.map swO (Option.bind (f ρ τ) _) = Option.bind (Option.map sw (f ρ τ)) _
      cases f ρ τ with
      | none => rfl
      | some r =>
        obtain ⟨w, ρ1, τ1⟩ := r
        cases w with
        | dat d => cases d <;> rfl
        | _ => rfl
@[simp] theorem wS_par {is : List Nat} {Q : Out → Prop} : wS (parS is ha) ρ τ Q ↔ wA ha ρ τ fun ws ρ1 τ1 => ws.length = is.length ∧ Q (.nx ((is.zip ws).foldl (fun ρ q => ρ.set q.1 (some (.val q.2))) ρ1) τ1) := by
  simp only [wS_iff, wA_iff, parS, wV_bind, wV_if]
@[simp] theorem wS_unp {gg : GF} {Q : Out → Prop} : wS (unpS f gg) ρ τ Q ↔ wE f ρ τ fun w ρ1 τ1 => match w with
    | .dat d => wV (gg d ρ1) fun ρ' => Q (.nx ρ' τ1)
    | _ => False := by
  simp only [wS_iff, wE_iff, unpS, wV_bind]
  refine wV_congr fun r => ?_
  obtain ⟨w, ρ1, τ1⟩ := r
  cases w with
  | dat d => simp only [wV_map]
  | tape => simp
  | dct _ => simp
@[simp] theorem wS_aug {i : Nat} {Q : Out → Prop} : wS (augS i f) ρ τ Q ↔ wV (augAt ρ i) fun n => wE f ρ τ fun w ρ1 τ1 => match w with
    | .dat (.int m) => Q (.nx (ρ1.set i (some (.val (.dat (.int (n + m)))))) τ1)
    | _ => False := by
  rw [wS_iff, augS_eq]
  simp only [wE_iff, wV_bind]
  refine wV_congr fun n => wV_congr fun r => ?_
  obtain ⟨w, ρ1, τ1⟩ := r
  cases w with
  | dat d => cases d <;> simp
  | tape => simp
  | dct _ => simp
@[simp] theorem augAt_0 {x : Option Sl} {r : EnvD} : augAt (x :: r) 0 = (match x with | some (.val (.dat (.int n))) => some n | _ => none) := by
  cases x with
  | none => rfl
  | some s =>
    cases s with
    | val w =>
      cases w with
      | dat d => cases d <;> rfl
      | _ => rfl
    | _ => rfl
@[simp] theorem augAt_s {x : Option Sl} {r : EnvD} {i : Nat} : augAt (x :: r) (i + 1) = augAt r i := rfl
@[simp] theorem tupG_3 {hh : GFs} {a b c : PyData} : tupG 3 hh (.tuple [a, b, c]) ρ = hh [a, b, c] ρ := rfl
end
end ND

set_option Elab.async false
set_option linter.all false
set_option maxRecDepth 100000
set_option maxHeartbeats 4000000
/-! ND17: mirrors run by equations, rule by rule. -/
namespace ND
open PySem PySem.SeqAt
section
variable {ρ ρ1 ρ2 ρ3 : EnvD} {τ τ1 τ2 τ3 : Tape} {f g h : EF} {p q : BF} {ha hb : AF} {k : FF} {F G : SF} {a b w : W} {o o2 : Out}
theorem ev_op2 {K : W → W → Option W} (h1 : f ρ τ = some (a, ρ1, τ1)) (h2 : g ρ1 τ1 = some (b, ρ2, τ2)) (h3 : K a b = some w) : op2 K f g ρ τ = some (w, ρ2, τ2) := by
  unfold op2; rw [h1]; simp only [Option.bind_some]; rw [h2]; simp only [Option.bind_some]; rw [h3]; rfl
theorem ev_un1 {K : W → Option W} (h1 : f ρ τ = some (a, ρ1, τ1)) (h3 : K a = some w) : un1 K f ρ τ = some (w, ρ1, τ1) := by
  unfold un1; rw [h1]; simp only [Option.bind_some]; rw [h3]; rfl
theorem ev_nilA : nilA ρ τ = some ([], ρ, τ) := rfl
theorem ev_consA {ws : List W} (h1 : f ρ τ = some (a, ρ1, τ1)) (h2 : ha ρ1 τ1 = some (ws, ρ2, τ2)) : consA f ha ρ τ = some (a :: ws, ρ2, τ2) := by
  unfold consA; rw [h1]; simp only [Option.bind_some]; rw [h2]; rfl
theorem ev_callF {K : List W → Option W} {ws : List W} (h1 : ha ρ τ = some (ws, ρ1, τ1)) (h2 : K ws = some w) : callF K ha ρ τ = some (w, ρ1, τ1) := by
  unfold callF; rw [h1]; simp only [Option.bind_some]; rw [h2]; rfl
/-- a def's call -/
structure CT (K : List W → Tape → Option (W × Tape)) (ws : List W) (τ : Tape) (w : W) (τ' : Tape) : Prop where
  e : K ws τ = some (w, τ')
theorem ev_callD {K : List W → Tape → Option (W × Tape)} {ws : List W} (h1 : ha ρ τ = some (ws, ρ1, τ1)) (h2 : CT K ws τ1 w τ2) : callD K ha ρ τ = some (w, ρ1, τ2) := by
  unfold callD; rw [h1]; simp only [Option.bind_some]; rw [h2.e]; rfl
theorem ev_tst {c : Bool} (h1 : f ρ τ = some (.dat (.bool c), ρ1, τ1)) : tst f ρ τ = some (c, ρ1, τ1) := by
  unfold tst; rw [h1]; rfl
theorem ev_notB {c : Bool} (h1 : p ρ τ = some (c, ρ1, τ1)) : notB p ρ τ = some (!c, ρ1, τ1) := by
  unfold notB; rw [h1]; rfl
theorem ev_andB {c : Bool} {r : Bool × EnvD × Tape} (h1 : p ρ τ = some (c, ρ1, τ1)) (h2 : (if c = true then q ρ1 τ1 else some (false, ρ1, τ1)) = some r) : andB p q ρ τ = some r := by
  unfold andB; rw [h1]; exact h2
theorem ev_orB {c : Bool} {r : Bool × EnvD × Tape} (h1 : p ρ τ = some (c, ρ1, τ1)) (h2 : (if c = true then some (true, ρ1, τ1) else q ρ1 τ1) = some r) : orB p q ρ τ = some r := by
  unfold orB; rw [h1]; exact h2
theorem ev_yesB : yesB ρ τ = some (true, ρ, τ) := rfl
theorem ev_andE {c : Bool} {r : W × EnvD × Tape} (h1 : f ρ τ = some (.dat (.bool c), ρ1, τ1)) (h2 : (if c = true then g ρ1 τ1 else some (.dat (.bool false), ρ1, τ1)) = some r) : andE f g ρ τ = some r := by
  unfold andE; rw [h1]; cases c <;> exact h2
theorem ev_orE {c : Bool} {r : W × EnvD × Tape} (h1 : f ρ τ = some (.dat (.bool c), ρ1, τ1)) (h2 : (if c = true then some (.dat (.bool true), ρ1, τ1) else g ρ1 τ1) = some r) : orE f g ρ τ = some r := by
  unfold orE; rw [h1]; cases c <;> exact h2
theorem ev_notE {c : Bool} (h1 : f ρ τ = some (.dat (.bool c), ρ1, τ1)) : notE f ρ τ = some (.dat (.bool (!c)), ρ1, τ1) := by
  unfold notE; rw [h1]; rfl
theorem ev_ifE {c : Bool} {r : W × EnvD × Tape} (h1 : p ρ τ = some (c, ρ1, τ1)) (h2 : (if c = true then f ρ1 τ1 else g ρ1 τ1) = some r) : ifE p f g ρ τ = some r := by
  unfold ifE; rw [h1]; exact h2
theorem ev_t {α : Type} {c : Bool} {x y : Option α} {r : α} (hc : c = true) (h : x = some r) : (if c = true then x else y) = some r := by rw [if_pos hc]; exact h
theorem ev_f {α : Type} {c : Bool} {x y : Option α} {r : α} (hc : c = false) (h : y = some r) : (if c = true then x else y) = some r := by rw [hc, if_neg Bool.false_ne_true]; exact h
theorem ev_tup {ws : List W} {ds : List PyData} (h1 : ha ρ τ = some (ws, ρ1, τ1)) (h2 : datsOf ws = some ds) (hl : ds.length ≤ 16777216) : tupF ha ρ τ = some (.dat (.tuple ds), ρ1, τ1) := by
  unfold tupF; rw [h1]; simp only [Option.bind_some]; rw [h2]; simp only [Option.bind_some]; rw [if_pos hl]
theorem ev_lst {ws : List W} {ds : List PyData} (h1 : ha ρ τ = some (ws, ρ1, τ1)) (h2 : datsOf ws = some ds) (hl : ds.length ≤ 16777216) : lstN ha ρ τ = some (ds, ρ1, τ1) := by
  unfold lstN; rw [h1]; simp only [Option.bind_some]; rw [h2]; simp only [Option.bind_some]; rw [if_pos hl]
theorem ev_ofN {ds : List PyData} (h1 : k ρ τ = some (ds, ρ1, τ1)) : ofN k ρ τ = some (.dat (.list ds), ρ1, τ1) := by
  unfold ofN; rw [h1]; rfl
theorem ev_addN {x y : List PyData} (h1 : f ρ τ = some (.dat (.list x), ρ1, τ1)) (h2 : g ρ1 τ1 = some (.dat (.list y), ρ2, τ2)) (hl : x.length + y.length ≤ 16777216) : addN f g ρ τ = some (x ++ y, ρ2, τ2) := by
  unfold addN; rw [h1]; simp only [Option.bind_some]; rw [h2]; simp only [Option.bind_some]; rw [if_pos hl]
theorem ev_noO : noO ρ τ = some (none, ρ, τ) := rfl
theorem ev_someO {i : Int} (h1 : f ρ τ = some (.dat (.int i), ρ1, τ1)) : someO f ρ τ = some (some i, ρ1, τ1) := by
  unfold someO; rw [h1]; rfl
theorem ev_sl {l u : OF} {d d' : PyData} {lo hi : Option Int} (h1 : f ρ τ = some (.dat d, ρ1, τ1)) (h2 : l ρ1 τ1 = some (lo, ρ2, τ2)) (h3 : u ρ2 τ2 = some (hi, ρ3, τ3)) (h4 : slP d lo hi = some d') : slF f l u ρ τ = some (.dat d', ρ3, τ3) := by
  unfold slF; rw [h1]; simp only [Option.bind_some]; rw [h2]; simp only [Option.bind_some]; rw [h3]; simp only [Option.bind_some]; rw [h4]; rfl
def chainR (h : EF) (j : Int) : EF := fun ρ τ => (h ρ τ).bind fun s => match s.1 with
  | .dat (.int l) => some (.dat (.bool (decide (j ≤ l))), s.2.1, s.2.2)
  | _ => none
theorem ev_chain {i j : Int} {r : W × EnvD × Tape} (h1 : f ρ τ = some (.dat (.int i), ρ1, τ1)) (h2 : g ρ1 τ1 = some (.dat (.int j), ρ2, τ2))
    (h3 : (if decide (i ≤ j) = true then chainR h j ρ2 τ2 else some (.dat (.bool false), ρ2, τ2)) = some r) : chainLe f g h ρ τ = some r := by
  unfold chainLe; rw [h1]; simp only [Option.bind_some]; rw [h2]; simp only [Option.bind_some]
  rw [← h3]
  by_cases c : i ≤ j
  · rw [if_pos c, decide_eq_true c, if_pos rfl]
    unfold chainR
    rfl
  · rw [if_neg c, decide_eq_false c]
    rfl
theorem ev_chainR {j l : Int} (h1 : h ρ τ = some (.dat (.int l), ρ1, τ1)) : chainR h j ρ τ = some (.dat (.bool (decide (j ≤ l))), ρ1, τ1) := by unfold chainR; rw [h1]; rfl
theorem ev_seqI {ds : List PyData} (h1 : f ρ τ = some (w, ρ1, τ1)) (h2 : itemsOf w = some ds) : seqI f ρ τ = some (ds, ρ1, τ1) := by
  unfold seqI; rw [h1]; simp only [Option.bind_some]; rw [h2]; rfl
theorem ev_rng1 {j : Int} (h1 : ha ρ τ = some ([.dat (.int j)], ρ1, τ1)) (hj : -4611686018427387904 ≤ j ∧ j < 4611686018427387904) : rng1I ha ρ τ = some (rangeD 0 j.toNat, ρ1, τ1) := by
  unfold rng1I; rw [h1]; simp only [Option.bind_some]; rw [if_pos hj]
theorem ev_rng2 {i j : Int} (h1 : ha ρ τ = some ([.dat (.int i), .dat (.int j)], ρ1, τ1)) (hj : (-4611686018427387904 ≤ i ∧ i < 4611686018427387904) ∧ -4611686018427387904 ≤ j ∧ j < 4611686018427387904) : rng2I ha ρ τ = some (rangeD i (j - i).toNat, ρ1, τ1) := by
  unfold rng2I; rw [h1]; simp only [Option.bind_some]; rw [if_pos hj]
theorem ev_zip {ws : List W} {ds : List PyData} (h1 : ha ρ τ = some (ws, ρ1, τ1)) (h2 : zipV ws = some ds) : zipI ha ρ τ = some (ds, ρ1, τ1) := by
  unfold zipI; rw [h1]; simp only [Option.bind_some]
  unfold zipV at h2
  split at h2 <;> first | (cases h2; rfl) | cases h2
theorem ev_enum {ws : List W} {ds : List PyData} (h1 : ha ρ τ = some (ws, ρ1, τ1)) (h2 : enumV ws = some ds) : enumI ha ρ τ = some (ds, ρ1, τ1) := by
  unfold enumI; rw [h1]; simp only [Option.bind_some]
  unfold enumV at h2
  split at h2 <;> first | (cases h2; rfl) | cases h2
theorem ev_listN {ws : List W} {ds : List PyData} (h1 : ha ρ τ = some (ws, ρ1, τ1)) (h2 : listV ws = some ds) : listN ha ρ τ = some (ds, ρ1, τ1) := by
  unfold listN; rw [h1]; simp only [Option.bind_some]
  unfold listV at h2
  split at h2 <;> first | (cases h2; rfl) | cases h2
theorem ev_rg2 {i j : Int} (h1 : f ρ τ = some (.dat (.int i), ρ1, τ1)) (h2 : g ρ1 τ1 = some (.dat (.int j), ρ2, τ2)) (hj : (-4611686018427387904 ≤ i ∧ i < 4611686018427387904) ∧ (-4611686018427387904 ≤ j ∧ j < 4611686018427387904) ∧ (j - i).toNat ≤ 16777216) : rg2D f g ρ τ = some (rangeD i (j - i).toNat, ρ2, τ2) := by
  unfold rg2D; rw [h1]; simp only [Option.bind_some]; rw [h2]; simp only [Option.bind_some]; rw [if_pos hj]
/-! statements -/
theorem ev_skip : skipS ρ τ = some (.nx ρ τ) := rfl
theorem ev_brk : brkS ρ τ = some (.bk ρ τ) := rfl
theorem ev_cnt : cntS ρ τ = some (.ct ρ τ) := rfl
theorem ev_ret (h1 : f ρ τ = some (w, ρ1, τ1)) : retS f ρ τ = some (.rt w τ1) := by unfold retS; rw [h1]; rfl
theorem ev_set {i : Nat} (h1 : f ρ τ = some (w, ρ1, τ1)) (h2 : ρ1.set i (some (.val w)) = ρ2) : setS i f ρ τ = some (.nx ρ2 τ1) := by unfold setS; rw [h1, ← h2]; rfl
theorem ev_own {i : Nat} {ds : List PyData} (h1 : k ρ τ = some (ds, ρ1, τ1)) (h2 : ρ1.set i (some (.own ds)) = ρ2) : ownS i k ρ τ = some (.nx ρ2 τ1) := by unfold ownS; rw [h1, ← h2]; rfl
theorem ev_if {c : Bool} (h1 : p ρ τ = some (c, ρ1, τ1)) (h2 : (if c = true then F ρ1 τ1 else G ρ1 τ1) = some o) : ifS p F G ρ τ = some o := by
  unfold ifS; rw [h1]; exact h2
def seqNx (G : SF) : Out → Option Out
  | .nx ρ' τ' => G ρ' τ'
  | .rt w τ' => some (.rt w τ')
  | .bk ρ' τ' => some (.bk ρ' τ')
  | .ct ρ' τ' => some (.ct ρ' τ')
theorem ev_seq (h1 : F ρ τ = some o) (h2 : seqNx G o = some o2) : seqS F G ρ τ = some o2 := by
  unfold seqS; rw [h1]; cases o <;> exact h2
theorem ev_nx (h : G ρ τ = some o) : seqNx G (.nx ρ τ) = some o := h
theorem ev_rt : seqNx G (.rt w τ) = some (.rt w τ) := rfl
theorem ev_bk : seqNx G (.bk ρ τ) = some (.bk ρ τ) := rfl
theorem ev_ct : seqNx G (.ct ρ τ) = some (.ct ρ τ) := rfl
theorem ev_par {is : List Nat} {ws : List W} (h1 : ha ρ τ = some (ws, ρ1, τ1)) (hl : ws.length = is.length) (h2 : (is.zip ws).foldl (fun ρ q => ρ.set q.1 (some (.val q.2))) ρ1 = ρ2) : parS is ha ρ τ = some (.nx ρ2 τ1) := by
  unfold parS; rw [h1]; simp only [Option.bind_some]; rw [if_pos hl, h2]
theorem ev_unp {gg : GF} {d : PyData} (h1 : f ρ τ = some (.dat d, ρ1, τ1)) (h2 : gg d ρ1 = some ρ2) : unpS f gg ρ τ = some (.nx ρ2 τ1) := by
  unfold unpS; rw [h1]; simp only [Option.bind_some]; rw [h2]; rfl
theorem ev_tupG {n : Nat} {h : GFs} {ds : List PyData} (hl : ds.length = n) (h1 : h ds ρ = some ρ1) : tupG n h (.tuple ds) ρ = some ρ1 := by
  unfold tupG; simp only; rw [if_pos hl, h1]
theorem ev_consG {gg : GF} {h : GFs} {d : PyData} {ds : List PyData} (h1 : gg d ρ = some ρ1) (h2 : h ds ρ1 = some ρ2) : consG gg h (d :: ds) ρ = some ρ2 := by
  show (gg d ρ).bind _ = _; rw [h1]; exact h2
theorem ev_nilG : nilG [] ρ = some ρ := rfl
theorem ev_nameG {i : Nat} {d : PyData} (h : ρ.set i (some (.val (.dat d))) = ρ1) : nameG i d ρ = some ρ1 := by unfold nameG; rw [h]
theorem ev_aug {i : Nat} {n m : Int} (h0 : ρ[i]? = some (some (.val (.dat (.int n))))) (h1 : f ρ τ = some (.dat (.int m), ρ1, τ1)) (h2 : ρ1.set i (some (.val (.dat (.int (n + m))))) = ρ2) : augS i f ρ τ = some (.nx ρ2 τ1) := by
  unfold augS; rw [h0]; simp only; rw [h1, ← h2]; rfl
theorem ev_app {i : Nat} {ds0 ds : List PyData} {d : PyData} (h0 : ownAt ρ i = some ds0) (h1 : f ρ τ = some (.dat d, ρ1, τ1)) (h2 : ownAt ρ1 i = some ds) (hl : ds.length < 16777216) (h3 : ρ1.set i (some (.own (ds ++ [d]))) = ρ2) : appS i f ρ τ = some (.nx ρ2 τ1) := by
  unfold appS; rw [h0]; simp only [Option.bind_some]; rw [h1]; simp only [Option.bind_some]; rw [h2]; simp only [Option.bind_some]; rw [if_pos hl, h3]
theorem ev_setIx {i n : Nat} {ds0 ds : List PyData} {d : PyData} {kk : Int} (h1 : f ρ τ = some (.dat d, ρ1, τ1)) (h0 : ownAt ρ1 i = some ds0) (h2 : g ρ1 τ1 = some (.dat (.int kk), ρ2, τ2)) (h3 : ownAt ρ2 i = some ds) (h4 : L2.ixN ds.length kk = some n) (h5 : ρ2.set i (some (.own (ds.set n d))) = ρ3) : setIxS i f g ρ τ = some (.nx ρ3 τ2) := by
  unfold setIxS; rw [h1]; simp only [Option.bind_some]; rw [h0]; simp only [Option.bind_some]; rw [h2]; simp only [Option.bind_some]; rw [h3]; simp only [Option.bind_some]; rw [h4, ← h5]; rfl
theorem ev_ins {i : Nat} {ds0 ds : List PyData} {d : PyData} {kk : Int} (h0 : ownAt ρ i = some ds0) (h1 : f ρ τ = some (.dat (.int kk), ρ1, τ1)) (h2 : g ρ1 τ1 = some (.dat d, ρ2, τ2)) (h3 : ownAt ρ2 i = some ds) (hl : 0 ≤ kk ∧ kk < 9223372036854775808 ∧ ds.length < 16777216) (h5 : ρ2.set i (some (.own (ds.take kk.toNat ++ [d] ++ ds.drop kk.toNat))) = ρ3) : insS i f g ρ τ = some (.nx ρ3 τ2) := by
  unfold insS; rw [h0]; simp only [Option.bind_some]; rw [h1]; simp only [Option.bind_some]; rw [h2]; simp only [Option.bind_some]; rw [h3]; simp only [Option.bind_some]; rw [if_pos hl, h5]
theorem ev_popAt {i : Nat} {ds0 ds : List PyData} {kk : Int} (h0 : ownAt ρ i = some ds0) (h1 : f ρ τ = some (.dat (.int kk), ρ1, τ1)) (h2 : ownAt ρ1 i = some ds) (hl : 0 ≤ kk ∧ kk < ds.length ∧ ds.length < 16777216) (h3 : ρ1.set i (some (.own (ds.eraseIdx kk.toNat))) = ρ2) : popAtS i f ρ τ = some (.nx ρ2 τ1) := by
  unfold popAtS; rw [h0]; simp only [Option.bind_some]; rw [h1]; simp only [Option.bind_some]; rw [h2]; simp only [Option.bind_some]; rw [if_pos hl, h3]
theorem ev_for {gg : GF} {ds : List PyData} (h1 : k ρ τ = some (ds, ρ1, τ1)) (h2 : forL gg F ds ρ1 τ1 = some o) : forS k gg F ρ τ = some o := by
  unfold forS; rw [h1]; exact h2
/-! comprehensions -/
theorem ev_lcL {α : Type} {enc : α → PyData} {gg : GF} {vs : List Nat} {r : α → EnvD} {t : α → Bool} {kk : α → PyData} {l : List α}
    (hg : ∀ a ∈ l, gg (enc a) ρ = some (r a)) (hp : ∀ a ∈ l, p (r a) τ = some (t a, r a, τ)) (hf : ∀ a ∈ l, t a = true → f (r a) τ = some (.dat (kk a), r a, τ)) (hw : ∀ a ∈ l, wipeD (r a) vs = ρ) : lcL gg p f vs (l.map enc) ρ τ = some ((l.filter t).map kk, ρ, τ) := by
  induction l with
  | nil => rfl
  | cons d ds ih =>
    have e1 := hg d List.mem_cons_self
    have e2 := hp d List.mem_cons_self
    have e4 := hw d List.mem_cons_self
    have e3 := hf d List.mem_cons_self
    have ih := ih (fun d m => hg d (List.mem_cons_of_mem _ m)) (fun d m => hp d (List.mem_cons_of_mem _ m)) (fun d m => hf d (List.mem_cons_of_mem _ m)) (fun d m => hw d (List.mem_cons_of_mem _ m))
    rw [List.map_cons]
    unfold lcL
    rw [e1]; simp only [Option.bind_some]; rw [e2]; simp only [Option.bind_some]
    by_cases ht : t d = true
    · rw [if_pos ht, e3 ht, List.filter_cons_of_pos ht]
      simp only [Option.bind_some]
      rw [e4, ih]
      rfl
    · rw [if_neg ht, e4, ih, List.filter_cons_of_neg ht]
theorem ev_lc {ρw : EnvD} {gg : GF} {vs : List Nat} {ds out : List PyData} (h1 : k ρ τ = some (ds, ρ1, τ1)) (hw : wipeD ρ1 vs = ρw) (h2 : lcL gg p f vs ds ρw τ1 = some (out, ρ2, τ2)) (hl : out.length ≤ 16777216) (h3 : mergeD ρ1 ρ2 vs = ρ3) : lcN k gg p f vs ρ τ = some (out, ρ3, τ2) := by
  unfold lcN; rw [h1]; simp only [Option.bind_some]; rw [hw, h2]; simp only [Option.bind_some]; rw [if_pos hl, h3]
/-- all items, no test -/
theorem ev_lcA {α : Type} {enc : α → PyData} {gg : GF} {vs : List Nat} {r : α → EnvD} {kk : α → PyData} {l : List α}
    (hg : ∀ a ∈ l, gg (enc a) ρ = some (r a)) (hf : ∀ a ∈ l, f (r a) τ = some (.dat (kk a), r a, τ)) (hw : ∀ a ∈ l, wipeD (r a) vs = ρ) : lcL gg yesB f vs (l.map enc) ρ τ = some (l.map kk, ρ, τ) := by
  have := ev_lcL (enc := enc) (f := f) (p := yesB) (gg := gg) (vs := vs) (ρ := ρ) (τ := τ) (t := fun _ => true) (kk := kk) (l := l) hg (fun a m => rfl) (fun a m _ => hf a m) hw
  rwa [List.filter_eq_self.mpr (fun _ _ => rfl)] at this
theorem ev_lcR {gg : GF} {vs : List Nat} {r : Nat → EnvD} {t : Nat → Bool} {kk : Nat → PyData} {lo : Int} {n : Nat}
    (hg : ∀ a ∈ List.range n, gg (.int (lo + (a : Int))) ρ = some (r a)) (hp : ∀ a ∈ List.range n, p (r a) τ = some (t a, r a, τ)) (hf : ∀ a ∈ List.range n, t a = true → f (r a) τ = some (.dat (kk a), r a, τ)) (hw : ∀ a ∈ List.range n, wipeD (r a) vs = ρ) : lcL gg p f vs (rangeD lo n) ρ τ = some (((List.range n).filter t).map kk, ρ, τ) :=
  ev_lcL (enc := fun (a : Nat) => PyData.int (lo + (a : Int))) hg hp hf hw
theorem ev_lcAR {gg : GF} {vs : List Nat} {r : Nat → EnvD} {kk : Nat → PyData} {lo : Int} {n : Nat}
    (hg : ∀ a ∈ List.range n, gg (.int (lo + (a : Int))) ρ = some (r a)) (hf : ∀ a ∈ List.range n, f (r a) τ = some (.dat (kk a), r a, τ)) (hw : ∀ a ∈ List.range n, wipeD (r a) vs = ρ) : lcL gg yesB f vs (rangeD lo n) ρ τ = some ((List.range n).map kk, ρ, τ) :=
  ev_lcA (enc := fun (a : Nat) => PyData.int (lo + (a : Int))) hg hf hw
theorem ev_lc2L {α β : Type} {enc : α → PyData} {enc1 : β → PyData} {gg g1 : GF} {k1 : FF} {vs vs1 : List Nat} {r1 r2 rw : α → EnvD} {r3 : α → β → EnvD} {it : α → List β} {kk : α → β → PyData} {l : List α}
    (hg : ∀ a ∈ l, gg (enc a) ρ = some (r1 a)) (hk : ∀ a ∈ l, k1 (r1 a) τ = some ((it a).map enc1, r2 a, τ)) (hw1 : ∀ a ∈ l, wipeD (r2 a) vs1 = rw a) (hg1 : ∀ a ∈ l, ∀ b ∈ it a, g1 (enc1 b) (rw a) = some (r3 a b)) (hf : ∀ a ∈ l, ∀ b ∈ it a, f (r3 a b) τ = some (.dat (kk a b), r3 a b, τ))
    (hw2 : ∀ a ∈ l, ∀ b ∈ it a, wipeD (r3 a b) vs1 = rw a) (hw : ∀ a ∈ l, wipeD (rw a) vs = ρ) :
    lc2L gg k1 g1 yesB f vs vs1 (l.map enc) ρ τ = some (l.flatMap fun a => (it a).map (kk a), ρ, τ) := by
  induction l with
  | nil => rfl
  | cons d ds ih =>
    have ih := ih (fun d m => hg d (List.mem_cons_of_mem _ m)) (fun d m => hk d (List.mem_cons_of_mem _ m)) (fun d m => hw1 d (List.mem_cons_of_mem _ m)) (fun d m => hg1 d (List.mem_cons_of_mem _ m)) (fun d m => hf d (List.mem_cons_of_mem _ m)) (fun d m => hw2 d (List.mem_cons_of_mem _ m)) (fun d m => hw d (List.mem_cons_of_mem _ m))
    rw [List.map_cons]
    unfold lc2L
    rw [hg d List.mem_cons_self]; simp only [Option.bind_some]; rw [hk d List.mem_cons_self]; simp only [Option.bind_some]
    rw [hw1 d List.mem_cons_self, ev_lcA (kk := kk d) (hg1 d List.mem_cons_self) (hf d List.mem_cons_self) (hw2 d List.mem_cons_self)]
    simp only [Option.bind_some]
    rw [hw d List.mem_cons_self, ih]
    rfl
theorem ev_lc2 {ρw : EnvD} {gg g1 : GF} {k1 : FF} {vs vs1 : List Nat} {ds out : List PyData} (h1 : k ρ τ = some (ds, ρ1, τ1)) (hw : wipeD ρ1 vs = ρw) (h2 : lc2L gg k1 g1 p f vs vs1 ds ρw τ1 = some (out, ρ2, τ2)) (hl : out.length ≤ 16777216) (h3 : mergeD ρ1 ρ2 vs = ρ3) : lc2N k gg k1 g1 p f vs vs1 ρ τ = some (out, ρ3, τ2) := by
  unfold lc2N; rw [h1]; simp only [Option.bind_some]; rw [hw, h2]; simp only [Option.bind_some]; rw [if_pos hl, h3]
/-! defs -/
theorem ev_fn {n N : Nat} {B : SF} {ws : List W} (hn : ws.length = n) (he : startD N ws = ρ) (h : B ρ τ = some (.rt w τ1)) : fnF n N B ws τ = some (w, τ1) := by
  unfold fnF; rw [if_pos hn, he, h]; rfl
theorem ev_fnN {n N : Nat} {B : SF} {ws : List W} (hn : ws.length = n) (he : startD N ws = ρ) (h : B ρ τ = some (.nx ρ1 τ1)) : fnF n N B ws τ = some (.dat .none, τ1) := by
  unfold fnF; rw [if_pos hn, he, h]; rfl
/-! the entry's slots -/
theorem st_0_1 : startD 1 [] = [none] := rfl
theorem st_0_2 : startD 2 [] = [none, none] := rfl
theorem st_0_3 : startD 3 [] = [none, none, none] := rfl
theorem st_0_4 : startD 4 [] = [none, none, none, none] := rfl
theorem st_0_5 : startD 5 [] = [none, none, none, none, none] := rfl
theorem st_0_6 : startD 6 [] = [none, none, none, none, none, none] := rfl
theorem st_0_7 : startD 7 [] = [none, none, none, none, none, none, none] := rfl
theorem st_0_8 : startD 8 [] = [none, none, none, none, none, none, none, none] := rfl
theorem st_0_9 : startD 9 [] = [none, none, none, none, none, none, none, none, none] := rfl
theorem st_0_10 : startD 10 [] = [none, none, none, none, none, none, none, none, none, none] := rfl
theorem st_0_11 : startD 11 [] = [none, none, none, none, none, none, none, none, none, none, none] := rfl
theorem st_0_12 : startD 12 [] = [none, none, none, none, none, none, none, none, none, none, none, none] := rfl
theorem st_0_13 : startD 13 [] = [none, none, none, none, none, none, none, none, none, none, none, none, none] := rfl
theorem st_0_14 : startD 14 [] = [none, none, none, none, none, none, none, none, none, none, none, none, none, none] := rfl
theorem st_0_15 : startD 15 [] = [none, none, none, none, none, none, none, none, none, none, none, none, none, none, none] := rfl
theorem st_0_16 : startD 16 [] = [none, none, none, none, none, none, none, none, none, none, none, none, none, none, none, none] := rfl
theorem st_0_17 : startD 17 [] = [none, none, none, none, none, none, none, none, none, none, none, none, none, none, none, none, none] := rfl
theorem st_0_18 : startD 18 [] = [none, none, none, none, none, none, none, none, none, none, none, none, none, none, none, none, none, none] := rfl
theorem st_0_19 : startD 19 [] = [none, none, none, none, none, none, none, none, none, none, none, none, none, none, none, none, none, none, none] := rfl
theorem st_0_20 : startD 20 [] = [none, none, none, none, none, none, none, none, none, none, none, none, none, none, none, none, none, none, none, none] := rfl
theorem st_0_21 : startD 21 [] = [none, none, none, none, none, none, none, none, none, none, none, none, none, none, none, none, none, none, none, none, none] := rfl
theorem st_1_1 {a : W} : startD 1 [a] = [some (.val a)] := rfl
theorem st_1_2 {a : W} : startD 2 [a] = [some (.val a), none] := rfl
theorem st_1_3 {a : W} : startD 3 [a] = [some (.val a), none, none] := rfl
theorem st_1_4 {a : W} : startD 4 [a] = [some (.val a), none, none, none] := rfl
theorem st_1_5 {a : W} : startD 5 [a] = [some (.val a), none, none, none, none] := rfl
theorem st_1_6 {a : W} : startD 6 [a] = [some (.val a), none, none, none, none, none] := rfl
theorem st_1_7 {a : W} : startD 7 [a] = [some (.val a), none, none, none, none, none, none] := rfl
theorem st_1_8 {a : W} : startD 8 [a] = [some (.val a), none, none, none, none, none, none, none] := rfl
theorem st_1_9 {a : W} : startD 9 [a] = [some (.val a), none, none, none, none, none, none, none, none] := rfl
theorem st_1_10 {a : W} : startD 10 [a] = [some (.val a), none, none, none, none, none, none, none, none, none] := rfl
theorem st_1_11 {a : W} : startD 11 [a] = [some (.val a), none, none, none, none, none, none, none, none, none, none] := rfl
theorem st_1_12 {a : W} : startD 12 [a] = [some (.val a), none, none, none, none, none, none, none, none, none, none, none] := rfl
theorem st_1_13 {a : W} : startD 13 [a] = [some (.val a), none, none, none, none, none, none, none, none, none, none, none, none] := rfl
theorem st_1_14 {a : W} : startD 14 [a] = [some (.val a), none, none, none, none, none, none, none, none, none, none, none, none, none] := rfl
theorem st_1_15 {a : W} : startD 15 [a] = [some (.val a), none, none, none, none, none, none, none, none, none, none, none, none, none, none] := rfl
theorem st_1_16 {a : W} : startD 16 [a] = [some (.val a), none, none, none, none, none, none, none, none, none, none, none, none, none, none, none] := rfl
theorem st_1_17 {a : W} : startD 17 [a] = [some (.val a), none, none, none, none, none, none, none, none, none, none, none, none, none, none, none, none] := rfl
theorem st_1_18 {a : W} : startD 18 [a] = [some (.val a), none, none, none, none, none, none, none, none, none, none, none, none, none, none, none, none, none] := rfl
theorem st_1_19 {a : W} : startD 19 [a] = [some (.val a), none, none, none, none, none, none, none, none, none, none, none, none, none, none, none, none, none, none] := rfl
theorem st_1_20 {a : W} : startD 20 [a] = [some (.val a), none, none, none, none, none, none, none, none, none, none, none, none, none, none, none, none, none, none, none] := rfl
theorem st_1_21 {a : W} : startD 21 [a] = [some (.val a), none, none, none, none, none, none, none, none, none, none, none, none, none, none, none, none, none, none, none, none] := rfl
theorem st_2_2 {a b : W} : startD 2 [a, b] = [some (.val a), some (.val b)] := rfl
theorem st_2_3 {a b : W} : startD 3 [a, b] = [some (.val a), some (.val b), none] := rfl
theorem st_2_4 {a b : W} : startD 4 [a, b] = [some (.val a), some (.val b), none, none] := rfl
theorem st_2_5 {a b : W} : startD 5 [a, b] = [some (.val a), some (.val b), none, none, none] := rfl
theorem st_2_6 {a b : W} : startD 6 [a, b] = [some (.val a), some (.val b), none, none, none, none] := rfl
theorem st_2_7 {a b : W} : startD 7 [a, b] = [some (.val a), some (.val b), none, none, none, none, none] := rfl
theorem st_2_8 {a b : W} : startD 8 [a, b] = [some (.val a), some (.val b), none, none, none, none, none, none] := rfl
theorem st_2_9 {a b : W} : startD 9 [a, b] = [some (.val a), some (.val b), none, none, none, none, none, none, none] := rfl
theorem st_2_10 {a b : W} : startD 10 [a, b] = [some (.val a), some (.val b), none, none, none, none, none, none, none, none] := rfl
theorem st_2_11 {a b : W} : startD 11 [a, b] = [some (.val a), some (.val b), none, none, none, none, none, none, none, none, none] := rfl
theorem st_2_12 {a b : W} : startD 12 [a, b] = [some (.val a), some (.val b), none, none, none, none, none, none, none, none, none, none] := rfl
theorem st_2_13 {a b : W} : startD 13 [a, b] = [some (.val a), some (.val b), none, none, none, none, none, none, none, none, none, none, none] := rfl
theorem st_2_14 {a b : W} : startD 14 [a, b] = [some (.val a), some (.val b), none, none, none, none, none, none, none, none, none, none, none, none] := rfl
theorem st_2_15 {a b : W} : startD 15 [a, b] = [some (.val a), some (.val b), none, none, none, none, none, none, none, none, none, none, none, none, none] := rfl
theorem st_2_16 {a b : W} : startD 16 [a, b] = [some (.val a), some (.val b), none, none, none, none, none, none, none, none, none, none, none, none, none, none] := rfl
theorem st_2_17 {a b : W} : startD 17 [a, b] = [some (.val a), some (.val b), none, none, none, none, none, none, none, none, none, none, none, none, none, none, none] := rfl
theorem st_2_18 {a b : W} : startD 18 [a, b] = [some (.val a), some (.val b), none, none, none, none, none, none, none, none, none, none, none, none, none, none, none, none] := rfl
theorem st_2_19 {a b : W} : startD 19 [a, b] = [some (.val a), some (.val b), none, none, none, none, none, none, none, none, none, none, none, none, none, none, none, none, none] := rfl
theorem st_2_20 {a b : W} : startD 20 [a, b] = [some (.val a), some (.val b), none, none, none, none, none, none, none, none, none, none, none, none, none, none, none, none, none, none] := rfl
theorem st_2_21 {a b : W} : startD 21 [a, b] = [some (.val a), some (.val b), none, none, none, none, none, none, none, none, none, none, none, none, none, none, none, none, none, none, none] := rfl
theorem st_3_3 {a b c : W} : startD 3 [a, b, c] = [some (.val a), some (.val b), some (.val c)] := rfl
theorem st_3_4 {a b c : W} : startD 4 [a, b, c] = [some (.val a), some (.val b), some (.val c), none] := rfl
theorem st_3_5 {a b c : W} : startD 5 [a, b, c] = [some (.val a), some (.val b), some (.val c), none, none] := rfl
theorem st_3_6 {a b c : W} : startD 6 [a, b, c] = [some (.val a), some (.val b), some (.val c), none, none, none] := rfl
theorem st_3_7 {a b c : W} : startD 7 [a, b, c] = [some (.val a), some (.val b), some (.val c), none, none, none, none] := rfl
theorem st_3_8 {a b c : W} : startD 8 [a, b, c] = [some (.val a), some (.val b), some (.val c), none, none, none, none, none] := rfl
theorem st_3_9 {a b c : W} : startD 9 [a, b, c] = [some (.val a), some (.val b), some (.val c), none, none, none, none, none, none] := rfl
theorem st_3_10 {a b c : W} : startD 10 [a, b, c] = [some (.val a), some (.val b), some (.val c), none, none, none, none, none, none, none] := rfl
theorem st_3_11 {a b c : W} : startD 11 [a, b, c] = [some (.val a), some (.val b), some (.val c), none, none, none, none, none, none, none, none] := rfl
theorem st_3_12 {a b c : W} : startD 12 [a, b, c] = [some (.val a), some (.val b), some (.val c), none, none, none, none, none, none, none, none, none] := rfl
theorem st_3_13 {a b c : W} : startD 13 [a, b, c] = [some (.val a), some (.val b), some (.val c), none, none, none, none, none, none, none, none, none, none] := rfl
theorem st_3_14 {a b c : W} : startD 14 [a, b, c] = [some (.val a), some (.val b), some (.val c), none, none, none, none, none, none, none, none, none, none, none] := rfl
theorem st_3_15 {a b c : W} : startD 15 [a, b, c] = [some (.val a), some (.val b), some (.val c), none, none, none, none, none, none, none, none, none, none, none, none] := rfl
theorem st_3_16 {a b c : W} : startD 16 [a, b, c] = [some (.val a), some (.val b), some (.val c), none, none, none, none, none, none, none, none, none, none, none, none, none] := rfl
theorem st_3_17 {a b c : W} : startD 17 [a, b, c] = [some (.val a), some (.val b), some (.val c), none, none, none, none, none, none, none, none, none, none, none, none, none, none] := rfl
theorem st_3_18 {a b c : W} : startD 18 [a, b, c] = [some (.val a), some (.val b), some (.val c), none, none, none, none, none, none, none, none, none, none, none, none, none, none, none] := rfl
theorem st_3_19 {a b c : W} : startD 19 [a, b, c] = [some (.val a), some (.val b), some (.val c), none, none, none, none, none, none, none, none, none, none, none, none, none, none, none, none] := rfl
theorem st_3_20 {a b c : W} : startD 20 [a, b, c] = [some (.val a), some (.val b), some (.val c), none, none, none, none, none, none, none, none, none, none, none, none, none, none, none, none, none] := rfl
theorem st_3_21 {a b c : W} : startD 21 [a, b, c] = [some (.val a), some (.val b), some (.val c), none, none, none, none, none, none, none, none, none, none, none, none, none, none, none, none, none, none] := rfl
theorem st_4_4 {a b c d : W} : startD 4 [a, b, c, d] = [some (.val a), some (.val b), some (.val c), some (.val d)] := rfl
theorem st_4_5 {a b c d : W} : startD 5 [a, b, c, d] = [some (.val a), some (.val b), some (.val c), some (.val d), none] := rfl
theorem st_4_6 {a b c d : W} : startD 6 [a, b, c, d] = [some (.val a), some (.val b), some (.val c), some (.val d), none, none] := rfl
theorem st_4_7 {a b c d : W} : startD 7 [a, b, c, d] = [some (.val a), some (.val b), some (.val c), some (.val d), none, none, none] := rfl
theorem st_4_8 {a b c d : W} : startD 8 [a, b, c, d] = [some (.val a), some (.val b), some (.val c), some (.val d), none, none, none, none] := rfl
theorem st_4_9 {a b c d : W} : startD 9 [a, b, c, d] = [some (.val a), some (.val b), some (.val c), some (.val d), none, none, none, none, none] := rfl
theorem st_4_10 {a b c d : W} : startD 10 [a, b, c, d] = [some (.val a), some (.val b), some (.val c), some (.val d), none, none, none, none, none, none] := rfl
theorem st_4_11 {a b c d : W} : startD 11 [a, b, c, d] = [some (.val a), some (.val b), some (.val c), some (.val d), none, none, none, none, none, none, none] := rfl
theorem st_4_12 {a b c d : W} : startD 12 [a, b, c, d] = [some (.val a), some (.val b), some (.val c), some (.val d), none, none, none, none, none, none, none, none] := rfl
theorem st_4_13 {a b c d : W} : startD 13 [a, b, c, d] = [some (.val a), some (.val b), some (.val c), some (.val d), none, none, none, none, none, none, none, none, none] := rfl
theorem st_4_14 {a b c d : W} : startD 14 [a, b, c, d] = [some (.val a), some (.val b), some (.val c), some (.val d), none, none, none, none, none, none, none, none, none, none] := rfl
theorem st_4_15 {a b c d : W} : startD 15 [a, b, c, d] = [some (.val a), some (.val b), some (.val c), some (.val d), none, none, none, none, none, none, none, none, none, none, none] := rfl
theorem st_4_16 {a b c d : W} : startD 16 [a, b, c, d] = [some (.val a), some (.val b), some (.val c), some (.val d), none, none, none, none, none, none, none, none, none, none, none, none] := rfl
theorem st_4_17 {a b c d : W} : startD 17 [a, b, c, d] = [some (.val a), some (.val b), some (.val c), some (.val d), none, none, none, none, none, none, none, none, none, none, none, none, none] := rfl
theorem st_4_18 {a b c d : W} : startD 18 [a, b, c, d] = [some (.val a), some (.val b), some (.val c), some (.val d), none, none, none, none, none, none, none, none, none, none, none, none, none, none] := rfl
theorem st_4_19 {a b c d : W} : startD 19 [a, b, c, d] = [some (.val a), some (.val b), some (.val c), some (.val d), none, none, none, none, none, none, none, none, none, none, none, none, none, none, none] := rfl
theorem st_4_20 {a b c d : W} : startD 20 [a, b, c, d] = [some (.val a), some (.val b), some (.val c), some (.val d), none, none, none, none, none, none, none, none, none, none, none, none, none, none, none, none] := rfl
theorem st_4_21 {a b c d : W} : startD 21 [a, b, c, d] = [some (.val a), some (.val b), some (.val c), some (.val d), none, none, none, none, none, none, none, none, none, none, none, none, none, none, none, none, none] := rfl
theorem st_5_5 {a b c d e : W} : startD 5 [a, b, c, d, e] = [some (.val a), some (.val b), some (.val c), some (.val d), some (.val e)] := rfl
theorem st_5_6 {a b c d e : W} : startD 6 [a, b, c, d, e] = [some (.val a), some (.val b), some (.val c), some (.val d), some (.val e), none] := rfl
theorem st_5_7 {a b c d e : W} : startD 7 [a, b, c, d, e] = [some (.val a), some (.val b), some (.val c), some (.val d), some (.val e), none, none] := rfl
theorem st_5_8 {a b c d e : W} : startD 8 [a, b, c, d, e] = [some (.val a), some (.val b), some (.val c), some (.val d), some (.val e), none, none, none] := rfl
theorem st_5_9 {a b c d e : W} : startD 9 [a, b, c, d, e] = [some (.val a), some (.val b), some (.val c), some (.val d), some (.val e), none, none, none, none] := rfl
theorem st_5_10 {a b c d e : W} : startD 10 [a, b, c, d, e] = [some (.val a), some (.val b), some (.val c), some (.val d), some (.val e), none, none, none, none, none] := rfl
theorem st_5_11 {a b c d e : W} : startD 11 [a, b, c, d, e] = [some (.val a), some (.val b), some (.val c), some (.val d), some (.val e), none, none, none, none, none, none] := rfl
theorem st_5_12 {a b c d e : W} : startD 12 [a, b, c, d, e] = [some (.val a), some (.val b), some (.val c), some (.val d), some (.val e), none, none, none, none, none, none, none] := rfl
theorem st_5_13 {a b c d e : W} : startD 13 [a, b, c, d, e] = [some (.val a), some (.val b), some (.val c), some (.val d), some (.val e), none, none, none, none, none, none, none, none] := rfl
theorem st_5_14 {a b c d e : W} : startD 14 [a, b, c, d, e] = [some (.val a), some (.val b), some (.val c), some (.val d), some (.val e), none, none, none, none, none, none, none, none, none] := rfl
theorem st_5_15 {a b c d e : W} : startD 15 [a, b, c, d, e] = [some (.val a), some (.val b), some (.val c), some (.val d), some (.val e), none, none, none, none, none, none, none, none, none, none] := rfl
theorem st_5_16 {a b c d e : W} : startD 16 [a, b, c, d, e] = [some (.val a), some (.val b), some (.val c), some (.val d), some (.val e), none, none, none, none, none, none, none, none, none, none, none] := rfl
theorem st_5_17 {a b c d e : W} : startD 17 [a, b, c, d, e] = [some (.val a), some (.val b), some (.val c), some (.val d), some (.val e), none, none, none, none, none, none, none, none, none, none, none, none] := rfl
theorem st_5_18 {a b c d e : W} : startD 18 [a, b, c, d, e] = [some (.val a), some (.val b), some (.val c), some (.val d), some (.val e), none, none, none, none, none, none, none, none, none, none, none, none, none] := rfl
theorem st_5_19 {a b c d e : W} : startD 19 [a, b, c, d, e] = [some (.val a), some (.val b), some (.val c), some (.val d), some (.val e), none, none, none, none, none, none, none, none, none, none, none, none, none, none] := rfl
theorem st_5_20 {a b c d e : W} : startD 20 [a, b, c, d, e] = [some (.val a), some (.val b), some (.val c), some (.val d), some (.val e), none, none, none, none, none, none, none, none, none, none, none, none, none, none, none] := rfl
theorem st_5_21 {a b c d e : W} : startD 21 [a, b, c, d, e] = [some (.val a), some (.val b), some (.val c), some (.val d), some (.val e), none, none, none, none, none, none, none, none, none, none, none, none, none, none, none, none] := rfl
/-! from and to wS -/
theorem wS_ev {Q : Out → Prop} (h : F ρ τ = some o) (q : Q o) : wS F ρ τ Q := ⟨o, h, q⟩
theorem ev_wS (h : wS F ρ τ fun x => x = o) : F ρ τ = some o := by
  obtain ⟨x, e, rfl⟩ := h
  exact e
theorem wS_seq1 {Q : Out → Prop} (h : F ρ τ = some (.nx ρ1 τ1)) (q : wS G ρ1 τ1 Q) : wS (seqS F G) ρ τ Q := wS_seq.mpr ⟨_, h, q⟩
theorem wS_seqW {Q : Out → Prop} (h : wS F ρ τ (thenQ G Q)) : wS (seqS F G) ρ τ Q := wS_seq.mpr h
theorem wS_forE {gg : GF} {ds : List PyData} {Q : Out → Prop} (h1 : k ρ τ = some (ds, ρ1, τ1)) (h2 : wS (forL gg F ds) ρ1 τ1 Q) : wS (forS k gg F) ρ τ Q := wS_for.mpr ⟨ds, ρ1, τ1, h1, h2⟩
theorem wS_mono {Q Q' : Out → Prop} (h : wS F ρ τ Q) (i : ∀ o, Q o → Q' o) : wS F ρ τ Q' := by
  obtain ⟨o, e, q⟩ := h
  exact ⟨o, e, i o q⟩
theorem wF_ex {K : List W → Tape → Option (W × Tape)} {ws : List W} {Q : W → Tape → Prop} (h : wF K ws τ Q) : ∃ w τ', K ws τ = some (w, τ') ∧ Q w τ' := h
end
end ND

set_option Elab.async false
set_option linter.all false
set_option maxRecDepth 100000
set_option maxHeartbeats 4000000
/-! ND18: more statements: x = y = e; x, y = [..], e; x, y[k] = e, e. -/
namespace ND
open PySem PySem.Spec L2
open PyProof.Rows hiding St
section
variable {X : Cx} {e a b c : Expr} {f g : EF} {pos apos ppos : Pos} {x : Str}
theorem set2_td {i j : Nat} {σ : St} {H : Hp} {D : Ends} (h : tDS X (set2S i j f) D σ H) : tAsg2 (tD X f) (gName i) (gName j) D σ H := by
  obtain ⟨T, M0, H0, M, ρ, τ, o, S, ef, w⟩ := h
  unfold set2S at ef
  cases e1 : f ρ τ with
  | none => rw [e1] at ef; cases ef
  | some r =>
    obtain ⟨w1, ρ1, τ1⟩ := r
    rw [e1] at ef
    cases ef
    refine ⟨T, M0, H0, M, ρ, τ, w1, ρ1, _, S, e1, fun v M' H' S' x r => ?_⟩
    exact w _ M' H' ((S'.putVal r).putVal r) (x.later S.mt)
theorem ds_set2 {st : Stmt} {i j : Nat} (h : PS X st (tAsg2 (tD X f) (gName i) (gName j))) : DS X st (set2S i j f) := h.mono fun _ _ _ q => set2_td q
/-- x, y = [..], e: x owns the list -/
def parOwnS (i j : Nat) (k : FF) (g : EF) : SF := fun ρ τ => (k ρ τ).bind fun r => (g r.2.1 r.2.2).map fun q => .nx ((q.2.1.set i (some (.own r.1))).set j (some (.val q.1))) q.2.2
theorem parOwn_td {i j : Nat} {k : FF} (hij : i ≠ j) {σ : St} {H : Hp} {D : Ends} (h : tDS X (parOwnS i j k g) D σ H) : tPar i j (tCons (tDN X k) (tCons (tD X g) tNil)) D σ H := by
  obtain ⟨T, M0, H0, M, ρ, τ, o, S, ef, w⟩ := h
  unfold parOwnS at ef
  cases e1 : k ρ τ with
  | none => rw [e1] at ef; cases ef
  | some r =>
    obtain ⟨ds, ρ1, τ1⟩ := r
    rw [e1] at ef
    simp only [Option.bind_some] at ef
    cases e2 : g ρ1 τ1 with
    | none => rw [e2] at ef; cases ef
    | some q =>
      obtain ⟨w2, ρ2, τ2⟩ := q
      rw [e2] at ef
      cases ef
      refine ⟨T, M0, H0, M, ρ, τ, ds, ρ1, τ1, S, e1, fun a M1 H1 F => ?_⟩
      have n0 := S.fresh0 F.new
      have nT : a ≠ T := fun z => S.trk0 _ S.t0 (by rw [show (cf X T).T = a from z.symm]; exact n0)
      -- the new list counts as the entry's while the second part is run
      obtain ⟨xs, ea, q1⟩ := F.it
      have P := F.S.pin (D := a) (o := .lst xs) F.lk ea F.no
      refine ⟨T, _, _, M1, ρ1, τ1, w2, ρ2, _, P, e2, fun v2 M2 H2 S2 x2 r2 => ?_⟩
      have ea2 : H2 a = some (.lst xs) := x2.keep a _ ea nT
      have ma2 : M2 a := S2.m0 a (.inr rfl)
      have no2 : ∀ (l : Nat) s, ρ2[l]? = some (some s) → s.isOwn = true → σ[l]? ≠ some (some (.ref a)) := fun l s es os z => by
        obtain ⟨v, ev, qs⟩ := S2.sl l s es
        obtain ⟨a', e', _, n', _⟩ := qs.own_ne os S2.t0 S2.trk0
        rw [ev] at z
        cases z
        cases e'
        rw [upd_same] at n'
        cases n'
      have S3 : SI (cf X T) M0 H0 M2 ρ2 τ2 σ H2 := by
        refine ⟨S2.len, S2.tp, fun b m => S2.m0 b (.inl m), S.t0, S2.trk, S.trk0, fun b o eb nb => ?_, fun l s es => ?_, S2.nd⟩
        · refine S2.fr b o ?_ nb
          rw [upd_ne (fun z => by rw [z, n0] at eb; cases eb)]
          exact eb
        · obtain ⟨v, ev, qs⟩ := S2.sl l s es
          refine ⟨v, ev, ?_⟩
          cases s with
          | val w => exact qs
          | own ds =>
            obtain ⟨b, ys, rfl, h1, h2, h3, h4⟩ := qs
            refine ⟨b, ys, rfl, h1, h2, ?_, h4⟩
            by_cases z : b = a
            · rw [z, upd_same] at h3; cases h3
            · rw [upd_ne z] at h3; exact h3
          | ownD kvs =>
            obtain ⟨b, rfl, h2, h3, h4⟩ := qs
            refine ⟨b, rfl, h2, ?_, h4⟩
            by_cases z : b = a
            · rw [z, upd_same] at h3; cases h3
            · rw [upd_ne z] at h3; exact h3
      have L1 : Later M H M1 H1 := ⟨fun b o eb nb => F.keep b o eb fun z => nb (by rw [z]; exact S.mt), fun b m => (F.sub b m).imp id fun z => by rw [z]; exact F.new⟩
      refine ⟨_, _, rfl, ?_⟩
      refine w _ M2 H2 ((S3.put fun z ez => ?_).putVal r2) (L1.trans (x2.later F.S.mt))
      cases ez
      exact ⟨⟨a, xs, rfl, ea2, ma2, n0, RpAll.later (x2.later F.S.mt) _ _ q1⟩, fun _ l t el ol _ => no2 l t el ol⟩
theorem ds_parOwn {st : Stmt} {i j : Nat} {k : FF} (hij : i ≠ j) (h : PS X st (tPar i j (tCons (tDN X k) (tCons (tD X g) tNil)))) : DS X st (parOwnS i j k g) := h.mono fun _ _ _ q => parOwn_td hij q
/-- x, y[k] = e, e with names x, k and y an owned list -/
def unpSubS (i l n : Nat) (f : EF) : SF := fun ρ τ => (f ρ τ).bind fun r => match r.1 with
  | .dat (.tuple [d1, d2]) => (ownAt (r.2.1.set i (some (.val (.dat d1)))) l).bind fun ds => match (r.2.1.set i (some (.val (.dat d1))))[n]? with
      | some (some (.val (.dat (.int k)))) => (ixN ds.length k).map fun m => .nx ((r.2.1.set i (some (.val (.dat d1)))).set l (some (.own (ds.set m d2)))) r.2.2
      | _ => none
  | _ => none
theorem unpSub_td {i l n : Nat} {σ : St} {H : Hp} {D : Ends} (h : tDS X (unpSubS i l n f) D σ H) : tAsg (tD X f) (gTup X.K 2 (gCons (gName i) (gCons (gSub (tVar l) (tVar n) rSetL) gNil))) D σ H := by
  obtain ⟨T, M0, H0, M, ρ, τ, o, S, ef, w⟩ := h
  unfold unpSubS at ef
  cases e1 : f ρ τ with
  | none => rw [e1] at ef; cases ef
  | some r =>
    obtain ⟨w1, ρ1, τ1⟩ := r
    rw [e1] at ef
    simp only [Option.bind_some] at ef
    refine ⟨T, M0, H0, M, ρ, τ, w1, ρ1, τ1, S, e1, fun v M1 H1 S1 x1 r1 => ?_⟩
    split at ef
    · next d1 d2 =>
      cases (show Rp M1 H1 v (.tuple [d1, d2]) from r1) with
      | tup et dn nm q1 =>
        cases q1 with
        | cons r1 q1 =>
          cases q1 with
          | cons r2 q1 =>
            cases q1
            have S2 := S1.putVal (i := i) (w := .dat d1) r1
            cases e2 : ownAt (ρ1.set i (some (.val (.dat d1)))) l with
            | none => rw [e2] at ef; cases ef
            | some ds =>
              rw [e2] at ef
              simp only [Option.bind_some] at ef
              split at ef
              · next k e3 =>
                cases e4 : ixN ds.length k with
                | none => rw [e4] at ef; cases ef
                | some m =>
                  rw [e4] at ef
                  cases ef
                  obtain ⟨la, xs, ev, el, q', _⟩ := S2.ownList e2
                  obtain ⟨vk, evk, qk⟩ := S2.sl n _ e3
                  cases (show Rp M1 H1 vk _ from qk)
                  obtain ⟨S3, L⟩ := S2.change (ownAt_some e2) ev (q'.set r2 m)
                  refine ⟨_, _, rfl, sqt et, rfl, _, _, rfl, _, _, rfl, _, ev, _, evk, _, xs, k, m, rfl, rfl, el, by rw [q'.length]; exact e4, rfl, w _ M1 _ S3 ((x1.later S.mt).trans L)⟩
              · cases ef
    · cases ef
theorem ds_unpSub {st : Stmt} {i l n : Nat} (h : PS X st (tAsg (tD X f) (gTup X.K 2 (gCons (gName i) (gCons (gSub (tVar l) (tVar n) rSetL) gNil))))) : DS X st (unpSubS i l n f) := h.mono fun _ _ _ q => unpSub_td q
end
section
variable {ρ ρ1 ρ2 ρ3 : EnvD} {τ τ1 τ2 τ3 : Tape} {f g : EF} {k : FF} {w : W}
theorem ev_set2 {i j : Nat} (h1 : f ρ τ = some (w, ρ1, τ1)) (h2 : (ρ1.set i (some (.val w))).set j (some (.val w)) = ρ2) : set2S i j f ρ τ = some (.nx ρ2 τ1) := by unfold set2S; rw [h1, ← h2]; rfl
theorem ev_parOwn {i j : Nat} {ds : List PyData} (h1 : k ρ τ = some (ds, ρ1, τ1)) (h2 : g ρ1 τ1 = some (w, ρ2, τ2)) (h3 : (ρ2.set i (some (.own ds))).set j (some (.val w)) = ρ3) : parOwnS i j k g ρ τ = some (.nx ρ3 τ2) := by
  unfold parOwnS; rw [h1]; simp only [Option.bind_some]; rw [h2, ← h3]; rfl
theorem ev_unpSub {i l n m : Nat} {d1 d2 : PyData} {ds : List PyData} {kk : Int} (h1 : f ρ τ = some (.dat (.tuple [d1, d2]), ρ1, τ1)) (h2 : ρ1.set i (some (.val (.dat d1))) = ρ2) (h3 : ownAt ρ2 l = some ds) (h4 : ρ2[n]? = some (some (.val (.dat (.int kk))))) (h5 : L2.ixN ds.length kk = some m) (h6 : ρ2.set l (some (.own (ds.set m d2))) = ρ3) : unpSubS i l n f ρ τ = some (.nx ρ3 τ1) := by
  unfold unpSubS; rw [h1]; simp only [Option.bind_some]; rw [h2, h3]; simp only [Option.bind_some]; rw [h4]; simp only; rw [h5, ← h6]; rfl
end
end ND

set_option Elab.async false
set_option linter.all false
set_option maxRecDepth 100000
set_option maxHeartbeats 4000000
/-! ND19: dicts whose keys are tuples of ints, nested: in, d[k], d.get, d[k] = v, displays. -/
namespace ND
open PySem PySem.Spec L2
open PyProof.Rows hiding St
section
variable {X : Cx} {pins : List (Addr × Obj)} {σ : St} {H : Hp} {s : Shared} {M : MS}
mutual
theorem Rp.nest (I : Inv X pins σ H s) : ∀ (d : PyData) (v : V) (u : Value) (k : NestedKey), Rp M H v d → RelV v u → keyD d = some k → NestedIs s.heap k u
  | .int i, v, u, k, h, r, e => by
    cases h
    obtain ⟨t, rfl⟩ := r
    cases (show some (NestedKey.num i) = some k from e)
    exact .int i t
  | .tuple ds, v, u, k, h, r, e => by
    cases h with
    | @tup a o xs _ e1 dn nm q =>
      cases (show u = Value.ref a from r)
      cases e2 : keyDs ds with
      | none => rw [show keyD (.tuple ds) = (keyDs ds).map .tup from rfl, e2] at e; cases e
      | some ks =>
        rw [show keyD (.tuple ds) = (keyDs ds).map .tup from rfl, e2] at e
        cases e
        obtain ⟨h1, h2, its, rv, o', h3, h4, n, h5⟩ := I.hok a _ e1
        exact .tup h3 h4 h5 (RpAll.nest I ds xs its ks q rv e2)
  | .none, _, _, _, _, _, e => by cases e
  | .bool _, _, _, _, _, _, e => by cases e
  | .str _, _, _, _, _, _, e => by cases e
  | .list _, _, _, _, _, _, e => by cases e
  | .dict _, _, _, _, _, _, e => by cases e
theorem RpAll.nest (I : Inv X pins σ H s) : ∀ (ds : List PyData) (vs : List V) (us : List Value) (ks : List NestedKey), RpAll M H vs ds → Vals vs us → keyDs ds = some ks → NestedAll s.heap ks us
  | [], vs, us, ks, h, r, e => by
    cases h; cases r
    cases (show some [] = some ks from e)
    exact .nil
  | d :: ds, vs, us, ks, h, r, e => by
    cases h with
    | cons h1 h2 =>
      cases r with
      | cons r1 r2 =>
        cases e1 : keyD d with
        | none => rw [show keyDs (d :: ds) = (keyD d).bind fun k => (keyDs ds).map fun ks => k :: ks from rfl, e1] at e; cases e
        | some k =>
          cases e2 : keyDs ds with
          | none => rw [show keyDs (d :: ds) = (keyD d).bind fun k => (keyDs ds).map fun ks => k :: ks from rfl, e1, e2] at e; cases e
          | some ks' =>
            rw [show keyDs (d :: ds) = (keyD d).bind fun k => (keyDs ds).map fun ks => k :: ks from rfl, e1, e2] at e
            cases e
            exact .cons (Rp.nest I d _ _ _ h1 r1 e1) (RpAll.nest I ds _ _ _ h2 r2 e2)
end
/-- a tuple that may be a key -/
def keyOf : PyData → Option NestedKey
  | .tuple ds => (keyD (.tuple ds)).bind fun k => if k.depth ≤ 8 then some k else none
  | _ => none
theorem keyOf_some {d : PyData} {k : NestedKey} (h : keyOf d = some k) : keyD d = some k ∧ k.depth ≤ 8 ∧ ∃ ds, d = .tuple ds := by
  unfold keyOf at h
  split at h
  · next ds =>
    cases e : keyD (.tuple ds) with
    | none => rw [e] at h; cases h
    | some k' =>
      rw [e] at h
      simp only [Option.bind_some] at h
      split at h
      · next hd => cases h; exact ⟨rfl, hd, ds, rfl⟩
      · cases h
  · cases h
theorem rp_key (I : Inv X pins σ H s) {d : PyData} {v : V} {u : Value} {k : NestedKey} (h : Rp M H v d) (r : RelV v u) (e : keyOf d = some k) : ∃ b, v = .ref b ∧ u = .ref b ∧ (nestedKind X.prog X.w).is s.heap k b := by
  obtain ⟨e1, e2, ds, rfl⟩ := keyOf_some e
  have hn := Rp.nest I _ _ _ _ h r e1
  cases h with
  | @tup a o xs _ e3 dn nm q =>
    cases (show u = Value.ref a from r)
    exact ⟨a, rfl, rfl, hn, e2⟩
theorem EntAll.is (I : Inv X pins σ H s) {xs : List (NestedKey × Addr × Value)} {kvs : List (PyData × PyData)} (h : EntAll M H xs kvs) : ∀ x ∈ xs, (nestedKind X.prog X.w).is s.heap x.1 x.2.1 := by
  induction h with
  | nil => intro x m; cases m
  | cons e dp r q rv _ ih =>
    intro x m
    rcases List.mem_cons.mp m with rfl | m
    · exact ⟨Rp.nest I _ _ _ _ r rfl e, dp⟩
    · exact ih x m
theorem EntAll.length {xs : List (NestedKey × Addr × Value)} {kvs : List (PyData × PyData)} (h : EntAll M H xs kvs) : xs.length = kvs.length := by
  induction h with
  | nil => rfl
  | cons _ _ _ _ _ _ ih => rw [List.length_cons, List.length_cons, ih]
theorem DctAt.dict (I : Inv X pins σ H s) {T : Addr} {a : Addr} {kvs : List (PyData × PyData)} (h : DctAt (cf X T) M H a kvs) : (a == sysModules) = false ∧ kvs.length ≤ sizeLine ∧ ∃ xs, (∃ ep, H a = some (dctO X.prog X.w a ep xs)) ∧ s.heap.DictOfH (nestedKind X.prog X.w) a xs ∧ EntAll M H xs kvs := by
  obtain ⟨h1, h2, ep, xs, e, nd, r⟩ := h
  obtain ⟨⟨o, es, g1, g2, g3, g4⟩, _⟩ := I.hok a _ e
  exact ⟨h1, h2, xs, ⟨ep, e⟩, ⟨o, es, ep, g1, g2, g3, g4, r.is I, nd⟩, r⟩
/-! look-ups on data -/
def sameKey (a b : PyData) : Bool := match keyD a, keyD b with
  | some x, some y => NestedKey.beq x y
  | _, _ => false
def lookD (kvs : List (PyData × PyData)) (k : PyData) : Option PyData := (kvs.find? fun p => sameKey p.1 k).map (·.2)
def putD (kvs : List (PyData × PyData)) (k v : PyData) : List (PyData × PyData) := if (lookD kvs k).isSome = true then kvs.map (fun p => if sameKey p.1 k = true then (p.1, v) else p) else kvs ++ [(k, v)]
theorem sameKey_iff {a b : PyData} {x y : NestedKey} (ha : keyD a = some x) (hb : keyD b = some y) : sameKey a b = decide (x = y) := by
  unfold sameKey
  rw [ha, hb]
  exact (NestedKey.decide_eq x y).symm
theorem EntAll.look {xs : List (NestedKey × Addr × Value)} {kvs : List (PyData × PyData)} (h : EntAll M H xs kvs) {kd : PyData} {k : NestedKey} (e : keyD kd = some k) :
    (atKey xs k = none ∧ lookD kvs kd = none) ∨ ∃ b u v vd, atKey xs k = some (b, u) ∧ lookD kvs kd = some vd ∧ RelV v u ∧ Rp M H v vd := by
  induction h with
  | nil => exact .inl ⟨rfl, rfl⟩
  | @cons k' b u v kd' vd xs kvs e' dp r q rv _ ih =>
    have hs := sameKey_iff e' e
    by_cases hk : k' = k
    · right
      rw [decide_eq_true hk] at hs
      refine ⟨b, u, v, vd, ?_, ?_, q, rv⟩
      · unfold atKey
        rw [List.find?_cons_of_pos (by simpa using hk)]
        rfl
      · unfold lookD
        rw [List.find?_cons_of_pos (p := fun p : PyData × PyData => sameKey p.1 kd) hs]
        rfl
    · rw [decide_eq_false hk] at hs
      have e1 : atKey ((k', b, u) :: xs) k = atKey xs k := by unfold atKey; rw [List.find?_cons_of_neg (by simpa using hk)]
      have e2 : lookD ((kd', vd) :: kvs) kd = lookD kvs kd := by unfold lookD; rw [List.find?_cons_of_neg (by rw [hs]; exact Bool.false_ne_true)]
      rw [e1, e2]
      exact ih
theorem EntAll.sm {xs : List (NestedKey × Addr × Value)} {kvs : List (PyData × PyData)} (h : EntAll M H xs kvs) {kd : PyData} {k : NestedKey} (e : keyD kd = some k) : (atKey xs k).isSome = (lookD kvs kd).isSome := by
  rcases h.look e with ⟨a, b⟩ | ⟨b, u, v, vd, a, c, _⟩
  · rw [a, b]; rfl
  · rw [a, c]; rfl
theorem EntAll.putMap {kd : PyData} {k : NestedKey} {v : V} {u : Value} {vd : PyData} (e : keyD kd = some k) (rv : RelV v u) (rp : Rp M H v vd) {xs : List (NestedKey × Addr × Value)} {kvs : List (PyData × PyData)} (h : EntAll M H xs kvs) :
    EntAll M H (xs.map (putAt k u)) (kvs.map fun p => if sameKey p.1 kd = true then (p.1, vd) else p) := by
  induction h with
  | nil => exact .nil
  | @cons k' b u' v' kd' vd' xs kvs e' dp r q rv' _ ih =>
    have hs := sameKey_iff e' e
    rw [List.map_cons, List.map_cons]
    by_cases hk : k' = k
    · rw [decide_eq_true hk] at hs
      simp only [hs, if_true]
      have : putAt k u (k', b, u') = (k', b, u) := by unfold putAt; rw [if_pos hk]
      rw [this]
      exact .cons e' dp r rv rp ih
    · rw [decide_eq_false hk] at hs
      simp only [hs]
      have : putAt k u (k', b, u') = (k', b, u') := by unfold putAt; rw [if_neg hk]
      rw [this]
      exact .cons e' dp r q rv' ih
theorem EntAll.appendOne {kd : PyData} {k : NestedKey} {b : Addr} {v : V} {u : Value} {vd : PyData} (e : keyD kd = some k) (dp : k.depth ≤ 8) (r : Rp M H (.ref b) kd) (rv : RelV v u) (rp : Rp M H v vd) {xs : List (NestedKey × Addr × Value)} {kvs : List (PyData × PyData)} (h : EntAll M H xs kvs) :
    EntAll M H (xs ++ [(k, b, u)]) (kvs ++ [(kd, vd)]) := by
  induction h with
  | nil => exact .cons e dp r rv rp .nil
  | cons e' dp' r' q' rv' _ ih => exact .cons e' dp' r' q' rv' ih
theorem EntAll.put {kd : PyData} {k : NestedKey} {b : Addr} {v : V} {u : Value} {vd : PyData} (e : keyD kd = some k) (dp : k.depth ≤ 8) (r : Rp M H (.ref b) kd) (rv : RelV v u) (rp : Rp M H v vd) {xs : List (NestedKey × Addr × Value)} {kvs : List (PyData × PyData)} (h : EntAll M H xs kvs) :
    EntAll M H (storedH xs k b u) (putD kvs kd vd) := by
  unfold storedH putD
  rw [h.sm e]
  split
  · exact h.putMap e rv rp
  · exact h.appendOne e dp r rv rp
theorem keyd_tok {t' : Nat} (I : Inv X pins σ H s) : Inv X pins σ H { s with toks := t' } := I.kept (h' := s.heap) (t' := t') fun _ _ e => e
/-- k in d -/
def rInD (X : Cx) (neg : Bool) : R2 := fun x y H Q => ∃ T M a kvs kd k, y = .ref a ∧ DctAt (cf X T) M H a kvs ∧ Rp M H x kd ∧ keyOf kd = some k ∧ Q (.bl (neg ^^ (lookD kvs kd).isSome)) H
theorem op_inD (hu : X.A.units + 9 < cLine) : OpR X (compareOp .In) (rInD X false) := by
  rintro pins s σ H x _ v u Q I rx ry ⟨T, M, a, kvs, kd, k, rfl, hd, hx, ek, q⟩
  cases ry
  obtain ⟨h1, h2, xs, e, dd, ent⟩ := hd.dict I
  obtain ⟨b, rfl, rfl, his⟩ := rp_key I hx rx ek
  refine wpAny_in_heap (knd := nestedKind X.prog X.w) (by show X.A.units + 1 + 8 < cLine; omega) his h1 dd ?_
  rw [ent.sm (keyOf_some ek).1]
  rw [Bool.false_xor] at q
  exact ⟨.bl _, H, keyd_tok I, rfl, q⟩
theorem op_notInD (hu : X.A.units + 9 < cLine) : OpR X (compareOp .NotIn) (rInD X true) := by
  rintro pins s σ H x _ v u Q I rx ry ⟨T, M, a, kvs, kd, k, rfl, hd, hx, ek, q⟩
  cases ry
  obtain ⟨h1, h2, xs, e, dd, ent⟩ := hd.dict I
  obtain ⟨b, rfl, rfl, his⟩ := rp_key I hx rx ek
  show wpAny _ _ (do return Value.bool (!(← contains (.ref a) (.ref b)))) _ _ s
  refine wpAny_bind (wpAny_contains_heap (knd := nestedKind X.prog X.w) (by show X.A.units + 1 + 8 < cLine; omega) his h1 dd (wpAny_pure ?_))
  rw [ent.sm (keyOf_some ek).1]
  rw [Bool.true_xor] at q
  exact ⟨.bl _, H, keyd_tok I, rfl, q⟩
def inD (neg : Bool) : W → W → Option W
  | .dat kd, .dct kvs => (keyOf kd).map fun _ => .dat (.bool (neg ^^ (lookD kvs kd).isSome))
  | a, b => inW neg a b
theorem RB.rp {C : Cf} {M : MS} {H : Hp} {d : PyData} {v : V} (h : RB C M H (.dat d) v) {ds : List PyData} (e : d = .tuple ds) : Rp M H v d := by
  subst e
  exact h
theorem opd_inD (neg : Bool) : OpD X (fun x y H Q => rInD X neg x y H Q ∨ rInP X.K neg x y H Q) (inD neg) := fun T M H w1 w2 w v1 v2 Q e tr mt r1 r2 k => by
  cases w2 with
  | dct kvs =>
    cases w1 with
    | dat kd =>
      cases ek : keyOf kd with
      | none => rw [show inD neg (.dat kd) (.dct kvs) = (keyOf kd).map _ from rfl, ek] at e; cases e
      | some kk =>
        rw [show inD neg (.dat kd) (.dct kvs) = (keyOf kd).map _ from rfl, ek] at e
        cases e
        obtain ⟨a, rfl, nT, hd⟩ := r2
        obtain ⟨_, _, ds, ed⟩ := keyOf_some ek
        exact .inl ⟨T, M, a, kvs, kd, kk, rfl, hd, r1.rp ed, ek, k _ H (Gr.refl H) (.bl _)⟩
    | tape => cases e
    | dct _ => cases e
  | dat d => exact .inr ((opp_in neg).d T M H w1 (.dat d) w v1 v2 Q (by cases w1 <;> exact e) tr mt r1 r2 k)
  | tape => exact .inr ((opp_in neg).d T M H w1 .tape w v1 v2 Q (by cases w1 <;> exact e) tr mt r1 r2 k)
/-- d[k] -/
def rIxD (X : Cx) : R2 := fun x y H Q => ∃ T M a kvs kd k vd, x = .ref a ∧ DctAt (cf X T) M H a kvs ∧ Rp M H y kd ∧ keyOf kd = some k ∧ lookD kvs kd = some vd ∧ ∀ v, Rp M H v vd → Q v H
theorem ix_dct (hu : X.A.units + 9 < cLine) : IxR X (rIxD X) := by
  rintro value slice pins s σ H _ y v u Q I rx ry ⟨T, M, a, kvs, kd, k, vd, rfl, hd, hy, ek, el, q⟩ hs
  cases rx
  obtain ⟨h1, h2, xs, e, dd, ent⟩ := hd.dict I
  obtain ⟨b, rfl, rfl, his⟩ := rp_key I hy ry ek
  rcases ent.look (keyOf_some ek).1 with ⟨_, z⟩ | ⟨b', u', v', vd', ea, eb, rv, rp⟩
  · rw [z] at el; cases el
  · rw [eb] at el
    cases el
    exact subscriptTail_builtinR (x := u') dd.typeIs PySem.F.slot_dict_getitem.lookup (wpAny_getItem_heap (knd := nestedKind X.prog X.w) (Q := fun r s' => r = u' ∧ EP X pins σ Q r s') (by show X.A.units + 1 + 8 < cLine; omega) his dd ea ⟨rfl, v', H, keyd_tok I, rv, q v' rp⟩) hs
end
end ND

set_option Elab.async false
set_option linter.all false
set_option maxRecDepth 100000
set_option maxHeartbeats 4000000
/-! ND20: d[k] = v, displays, d.get, len(d). -/
namespace ND
open PySem PySem.Spec L2
open PyProof.Rows hiding St
section
variable {X : Cx} {e a b c : Expr} {f g : EF} {pos apos cpos : Pos}
theorem dctO_ok {h : Heap} {p : Addr} {xs : List (NestedKey × Addr × Value)} (dd : h.DictOfH (nestedKind X.prog X.w) p xs) : ∃ ep, ∀ H, ObjOk X.prog X.w H h p (dctO X.prog X.w p ep xs) := by
  obtain ⟨o, es, ep, h1, h2, h3, h4, _, _⟩ := dd
  exact ⟨ep, fun H => ⟨⟨o, es, h1, h2, h3, h4⟩, ⟨o, h1⟩, fun h1 h2 ⟨o, es, q1, q2, q3, q4⟩ kk => ⟨o, es, kk o q1, q2, q3, q4⟩⟩⟩
/-- d[k] = v -/
def rSetD (X : Cx) : TSet := fun o i v H Q => ∃ T M a kvs kd k vd, o = .ref a ∧ DctAt (cf X T) M H a kvs ∧ Rp M H i kd ∧ keyOf kd = some k ∧ Rp M H v vd ∧
  ∀ ep xs, EntAll M H xs (putD kvs kd vd) → (xs.map (·.1)).Nodup → Q (upd H a (dctO X.prog X.w a ep xs))
theorem set_dct (hu : X.A.units + 9 < cLine) : PSet X (rSetD X) := by
  rintro pins s σ H _ i v ov iv u Q I ro ri rv ⟨T, M, a, kvs, kd, k, vd, rfl, hd, hi, ek, hv, q⟩
  cases ro
  obtain ⟨h1, h2, xs, ⟨ep, e⟩, dd, ent⟩ := hd.dict I
  obtain ⟨b, rfl, rfl, his⟩ := rp_key I hi ri ek
  obtain ⟨e1, e2, _⟩ := keyOf_some ek
  refine wpAny_setItem_heap (knd := nestedKind X.prog X.w) (hsz := by rw [ent.length]; exact h2) (by show X.A.units + 1 + 8 < cLine; omega) his dd fun h' dd' hs => ?_
  have he : ∃ q, h'.get? a = some q := let ⟨q, _, _, hq, _⟩ := dd'; ⟨q, hq⟩
  obtain ⟨ep', ok'⟩ := dctO_ok dd'
  exact ⟨_, d_write I (by rw [e]; exact True.intro) hs he (ok' _), q _ _ (ent.put e1 e2 hi rv hv) (by obtain ⟨_, _, _, _, _, _, _, _, nd⟩ := dd'; exact nd)⟩
/-- the slot owns a dict -/
def ownDAt (ρ : EnvD) (i : Nat) : Option (List (PyData × PyData)) := match ρ[i]? with
  | some (some (.ownD kvs)) => some kvs
  | _ => none
theorem ownDAt_some {ρ : EnvD} {i : Nat} {kvs : List (PyData × PyData)} (h : ownDAt ρ i = some kvs) : ρ[i]? = some (some (.ownD kvs)) := by
  unfold ownDAt at h
  split at h
  · next e => cases h; exact e
  · cases h
theorem SI.changeD {C : Cf} {M0 : MS} {H0 : Hp} {M : MS} {ρ : EnvD} {τ : Tape} {σ : St} {H : Hp} {i : Nat} {kvs kvs' : List (PyData × PyData)} {ep : Nat} {xs : List (NestedKey × Addr × Value)} {a : Addr} (S : SI C M0 H0 M ρ τ σ H) (e : ρ[i]? = some (some (.ownD kvs))) (ev : σ[i]? = some (some (.ref a))) (hs : (a == sysModules) = false) (hl : kvs'.length ≤ sizeLine)
    (r : EntAll M H xs kvs') (nd : (xs.map (·.1)).Nodup) : SI C M0 H0 M (ρ.set i (some (.ownD kvs'))) τ σ (upd H a (dctO C.P C.w a ep xs)) ∧ Later M H M (upd H a (dctO C.P C.w a ep xs)) := by
  obtain ⟨v, ev', q⟩ := S.sl i _ e
  rw [ev] at ev'
  cases ev'
  obtain ⟨a', ea', m, n0, nT⟩ := q.own_ne rfl S.t0 S.trk0
  cases ea'
  have S1 : SI C M0 H0 M (ρ.set i none) τ σ H := S.weak (by rw [List.length_set]; exact S.len) fun j t ej => by
    rcases get_set ej with ⟨_, z, _⟩ | ⟨ne, z⟩
    · cases z
    · exact ⟨z, rfl⟩
  have no : ∀ (j : Nat) t, (ρ.set i none)[j]? = some (some t) → t.isOwn = true → σ[j]? ≠ some (some (.ref a)) := fun j t ej oj => by
    rcases get_set ej with ⟨_, z, _⟩ | ⟨ne, z⟩
    · cases z
    · exact S.own_alone e rfl ev j t z oj ne
  obtain ⟨S2, L⟩ := S1.poke (o := dctO C.P C.w a ep xs) m nT n0 no
  have S3 := S2.know (i := i) (s := .ownD kvs') ev ⟨a, rfl, m, n0, hs, hl, ep, xs, upd_same, nd, r.later L⟩ fun _ j t ej oj _ => no j t ej oj
  rw [List.set_set] at S3
  exact ⟨S3, L⟩
theorem SI.ownDct {C : Cf} {M0 : MS} {H0 : Hp} {M : MS} {ρ : EnvD} {τ : Tape} {σ : St} {H : Hp} (S : SI C M0 H0 M ρ τ σ H) {i : Nat} {kvs : List (PyData × PyData)} (e : ownDAt ρ i = some kvs) : ∃ a, σ[i]? = some (some (.ref a)) ∧ DctAt C M H a kvs ∧ a ≠ C.T := by
  obtain ⟨v, ev, q⟩ := S.sl i _ (ownDAt_some e)
  obtain ⟨a', e1, _, _, nT⟩ := q.own_ne rfl S.t0 S.trk0
  obtain ⟨a, rfl, m, n0, r⟩ := q
  cases e1
  exact ⟨_, ev, r, nT⟩
/-- x[k] = e, x an owned dict -/
def setDS (i : Nat) (f g : EF) : SF := fun ρ τ => (f ρ τ).bind fun r => (ownDAt r.2.1 i).bind fun _ => (g r.2.1 r.2.2).bind fun q => (ownDAt q.2.1 i).bind fun kvs => match r.1, q.1 with
  | .dat d, .dat kd => if (keyOf kd).isSome = true ∧ kvs.length < 16777216 then some (.nx (q.2.1.set i (some (.ownD (putD kvs kd d)))) q.2.2) else none
  | _, _ => none
theorem putD_length (kvs : List (PyData × PyData)) (k v : PyData) : (putD kvs k v).length ≤ kvs.length + 1 := by
  unfold putD
  split
  · rw [List.length_map]; omega
  · simp
theorem setD_td {i : Nat} {σ : St} {H : Hp} {D : Ends} (h : tDS X (setDS i f g) D σ H) : tAsg (tD X f) (gSub (tVar i) (tDB X g) (rSetD X)) D σ H := by
  obtain ⟨T, M0, H0, M, ρ, τ, o, S, ef, w⟩ := h
  unfold setDS at ef
  cases e1 : f ρ τ with
  | none => rw [e1] at ef; cases ef
  | some r =>
    obtain ⟨w1, ρ1, τ1⟩ := r
    rw [e1] at ef
    simp only [Option.bind_some] at ef
    cases e0 : ownDAt ρ1 i with
    | none => rw [e0] at ef; cases ef
    | some ds0 =>
      rw [e0] at ef
      simp only [Option.bind_some] at ef
      cases e2 : g ρ1 τ1 with
      | none => rw [e2] at ef; cases ef
      | some q =>
        obtain ⟨w2, ρ2, τ2⟩ := q
        rw [e2] at ef
        simp only [Option.bind_some] at ef
        cases e3 : ownDAt ρ2 i with
        | none => rw [e3] at ef; cases ef
        | some kvs =>
          rw [e3] at ef
          simp only [Option.bind_some] at ef
          refine ⟨T, M0, H0, M, ρ, τ, w1, ρ1, τ1, S, e1, fun v1 M1 H1 S1 x1 r1 => ?_⟩
          obtain ⟨l, ev, el, _⟩ := S1.ownDct e0
          refine ⟨_, ev, T, M0, H0, M1, ρ1, τ1, w2, ρ2, τ2, S1, e2, fun v2 M2 H2 S2 x2 r2 => ?_⟩
          obtain ⟨l', ev', el', _⟩ := S2.ownDct e3
          rw [ev] at ev'
          cases ev'
          cases w1 with
          | dat d =>
            cases w2 with
            | dat kd =>
              simp only at ef
              split at ef
              · next hk =>
                cases ef
                obtain ⟨kk, ek⟩ := Option.isSome_iff_exists.mp hk.1
                obtain ⟨_, _, ds, ed⟩ := keyOf_some ek
                have hlen : (putD kvs kd d).length ≤ sizeLine := by
                  have := putD_length kvs kd d
                  rw [sizeLine_eq]
                  omega
                refine ⟨T, M2, l, kvs, kd, kk, d, rfl, el', r2.rp ed, ek, Rp.later (x2.later S1.mt) _ _ r1, fun ep xs ent nd => ?_⟩
                obtain ⟨S3, L⟩ := S2.changeD (ownDAt_some e3) ev el'.1 hlen ent nd
                exact w σ M2 _ S3 (((x1.trans x2).later S.mt).trans L)
              · cases ef
            | tape => cases ef
            | dct _ => cases ef
          | tape => cases ef
          | dct _ => cases ef
theorem ds_setD {st : Stmt} {i : Nat} (h : PS X st (tAsg (tD X f) (gSub (tVar i) (tDB X g) (rSetD X)))) : DS X st (setDS i f g) := h.mono fun _ _ _ q => setD_td q
/-! displays -/
def tDisp1 (X : Cx) (tk tv : TE) : TE := fun σ H Q => ∀ p ep, H p = none → (p == sysModules) = false → tk σ (upd H p (dctO X.prog X.w p ep [])) fun x H1 => tv σ H1 fun y H2 => H2 p = some (dctO X.prog X.w p ep []) ∧ ∃ M kd k vd, Rp M H2 x kd ∧ keyOf kd = some k ∧ Rp M H2 y vd ∧
  ∀ ep xs, EntAll M H2 xs [(kd, vd)] → (xs.map (·.1)).Nodup → Q (.ref p) (upd H2 p (dctO X.prog X.w p ep xs))
theorem pe_disp1 {tk tv : TE} (hu : X.A.units + 9 < cLine) (hk : PE X a tk) (hv : PE X b tv) : PE X (.Dict [some a] [b] pos) (tDisp1 X tk tv) := .mk fun pins s σ H Q I q => by
  have room : (nestedKind X.prog X.w).room X.A := by show X.A.units + 8 < cLine; omega
  -- the new dict is there before its key and value are
  obtain ⟨ep0, empty⟩ := dctO_ok (X := X) (Heap.DictOfH.new s.heap)
  have I1 := I.laid (t' := s.toks) (fun _ _ e => Heap.get?_push_of_some { cls := .type "dict", data := .dict #[] } e) (Nat.le_refl _) (empty (upd H _ _))
  have both := q s.heap.objs.size ep0 (I.hok.fresh (Nat.le_refl _)) (beq_eq_false_iff_ne.mpr (Nat.ne_of_gt I.big))
  rw [arm_eval_Dict, zip_pairTrees [some a] [b] X.env pos rfl rfl, dictDisplay_pairs (pairTrees [some a] [b] X.env pos) (by simp [pairTrees]) (by simp [pairTrees])]
  refine wpAny_bind (wpAny_standAt (wpAny_bind (wpAny_subDictH (knd := nestedKind X.prog X.w) (Q := fun d s' => wpAny (model X.prog X.w) X.A (pure (Value.ref d)) (EP X pins σ Q) X.xe s') room (by simp [pairTrees]) (pairTrees_cons_walk (thn (hk.run pins _ σ _ _ I1 both) fun u s2 e => ?_)))))
  obtain ⟨x, H1, I2, rx, both⟩ := e
  refine thn (hv.run pins s2 σ H1 _ I2 both) fun v s3 e => pairTrees_nil_walk ?_
  obtain ⟨y, H2, I3, ry, at_d, M, kd, k, vd, hx, ek, hy, q⟩ := e
  obtain ⟨c, rfl, rfl, is⟩ := rp_key I3 hx rx ek
  obtain ⟨e1, e2, _⟩ := keyOf_some ek
  obtain ⟨⟨o, es, g1, g2, g3, g4⟩, _⟩ := I3.hok _ _ at_d
  refine ⟨[(k, c, v)], ⟨rfl, rfl, is, trivial⟩, ⟨o, es, _, g1, g2, g3, g4, (fun _ m => nomatch m), .nil⟩, fun h' tk dct same => ?_⟩
  have dct : h'.DictOfH (nestedKind X.prog X.w) s.heap.objs.size [(k, c, v)] := dct
  obtain ⟨ep, ok⟩ := dctO_ok dct
  obtain ⟨o', _, _, at', _, _, _, _, nd⟩ := dct
  exact wpAny_pure ⟨.ref s.heap.objs.size, _, d_write I3 (by rw [at_d]; exact True.intro) same ⟨o', at'⟩ (ok _), rfl, q ep _ (.cons e1 e2 hx ry hy .nil) nd⟩
/-- a new dict -/
structure FreshD (C : Cf) (M0 : MS) (H0 : Hp) (M : MS) (H : Hp) (ρ' : EnvD) (τ' : Tape) (σ : St) (a : Addr) (kvs : List (PyData × PyData)) (M' : MS) (H' : Hp) : Prop where
  S : SI C M0 H0 M' ρ' τ' σ H'
  keep : ∀ b o, H b = some o → b ≠ C.T → H' b = some o
  sub : ∀ b, M' b → M b ∨ b = a
  new : H a = none
  lk : M' a
  no : ∀ (i : Nat) s, ρ'[i]? = some (some s) → s.isOwn = true → σ[i]? ≠ some (some (.ref a))
  it : DctAt C M' H' a kvs
abbrev KF := EnvD → Tape → Option (List (PyData × PyData) × EnvD × Tape)
def tDK (X : Cx) (f : KF) : TE := fun σ H Q => ∃ T M0 H0 M ρ τ kvs ρ' τ', SI (cf X T) M0 H0 M ρ τ σ H ∧ f ρ τ = some (kvs, ρ', τ') ∧
  ∀ a M' H', FreshD (cf X T) M0 H0 M H ρ' τ' σ a kvs M' H' → Q (.ref a) H'
def DK (X : Cx) (e : Expr) (f : KF) : Prop := PE X e (tDK X f)
def dnewK : KF := fun ρ τ => some ([], ρ, τ)
def tDnew (X : Cx) : TE := fun _ H Q => ∀ p ep, H p = none → (p == sysModules) = false → Q (.ref p) (upd H p (dctO X.prog X.w p ep []))
theorem pe_dnew : PE X (.Dict [] [] pos) (tDnew X) := ⟨fun pins s σ H Q I h =>
  wpAny_Dict_empty ⟨.ref s.heap.objs.size, _, I.laid (a := s.heap.objs.size) (o := dctO X.prog X.w s.heap.objs.size _ []) (t' := s.toks) (fun _ _ q => Heap.get?_push_of_some _ q) (Nat.le_refl _) ((dctO_ok (Heap.DictOfH.new s.heap)).choose_spec _), rfl, h _ _ (I.hok.fresh (Nat.le_refl _)) (beq_eq_false_iff_ne.mpr (Ne.symm (Nat.ne_of_lt I.big)))⟩⟩
theorem dk_new : DK X (.Dict [] [] pos) dnewK := pe_dnew.mono fun σ H Q ⟨T, M0, H0, M, ρ, τ, kvs, ρ', τ', S, ef, k⟩ => by
  cases ef
  intro p ep np hs
  refine k p (fun b => M b ∨ b = p) _ ⟨S.lock np, fun b o e _ => Gr.upd np b o e, fun b m => m, np, .inr rfl, S.own_tracked np, hs, Nat.zero_le _, ep, [], upd_same, List.nodup_nil, .nil⟩
/-- {k: v} -/
def dispK (f g : EF) : KF := fun ρ τ => (f ρ τ).bind fun r => (g r.2.1 r.2.2).bind fun q => match r.1, q.1 with
  | .dat kd, .dat vd => (keyOf kd).map fun _ => ([(kd, vd)], q.2.1, q.2.2)
  | _, _ => none
/-- the entry's mark is taken off -/
theorem SI.unpinE {C : Cf} {M0 : MS} {H0 : Hp} {M : MS} {ρ : EnvD} {τ : Tape} {σ : St} {H : Hp} {D : Addr} {o : HO} (S : SI C (fun b => M0 b ∨ b = D) (upd H0 D o) M ρ τ σ H) (n0 : H0 D = none) (t0 : M0 C.T) (trk0 : ∀ b, M0 b → H0 b ≠ none) : SI C M0 H0 M ρ τ σ H := by
  refine ⟨S.len, S.tp, fun b m => S.m0 b (.inl m), t0, S.trk, trk0, fun b u eb nb => S.fr b u (by rw [upd_ne (fun z => by rw [z, n0] at eb; cases eb)]; exact eb) nb, fun l s es => ?_, S.nd⟩
  obtain ⟨v, ev, qs⟩ := S.sl l s es
  refine ⟨v, ev, ?_⟩
  cases s with
  | val w => exact qs
  | own ds =>
    obtain ⟨b, ys, rfl, h1, h2, h3, h4⟩ := qs
    refine ⟨b, ys, rfl, h1, h2, ?_, h4⟩
    by_cases z : b = D
    · rw [z, upd_same] at h3; cases h3
    · rw [upd_ne z] at h3; exact h3
  | ownD kvs =>
    obtain ⟨b, rfl, h2, h3, h4⟩ := qs
    refine ⟨b, rfl, h2, ?_, h4⟩
    by_cases z : b = D
    · rw [z, upd_same] at h3; cases h3
    · rw [upd_ne z] at h3; exact h3
theorem SI.unpin_no {C : Cf} {M0 : MS} {H0 : Hp} {M : MS} {ρ : EnvD} {τ : Tape} {σ : St} {H : Hp} {D : Addr} {o : HO} (S : SI C (fun b => M0 b ∨ b = D) (upd H0 D o) M ρ τ σ H) : ∀ (i : Nat) s, ρ[i]? = some (some s) → s.isOwn = true → σ[i]? ≠ some (some (.ref D)) := fun l s es os z => by
  obtain ⟨v, ev, qs⟩ := S.sl l s es
  obtain ⟨a', e', _, n', _⟩ := qs.own_ne os S.t0 S.trk0
  rw [ev] at z
  cases z
  cases e'
  rw [upd_same] at n'
  cases n'
theorem dk_disp (hu : X.A.units + 9 < cLine) (hk : DE X a f) (hv : DE X b g) : DK X (.Dict [some a] [b] pos) (dispK f g) := (pe_disp1 hu hk hv).mono fun σ H Q ⟨T, M0, H0, M, ρ, τ, kvs, ρ', τ', S, ef, k⟩ => by
  unfold dispK at ef
  cases e1 : f ρ τ with
  | none => rw [e1] at ef; cases ef
  | some r =>
    obtain ⟨w1, ρ1, τ1⟩ := r
    rw [e1] at ef
    simp only [Option.bind_some] at ef
    cases e2 : g ρ1 τ1 with
    | none => rw [e2] at ef; cases ef
    | some q =>
      obtain ⟨w2, ρ2, τ2⟩ := q
      rw [e2] at ef
      simp only [Option.bind_some] at ef
      cases w1 with
      | dat kd =>
        cases w2 with
        | dat vd =>
          cases ek : keyOf kd with
          | none => simp only [ek] at ef; cases ef
          | some kk =>
            simp only [ek] at ef
            cases ef
            intro p ep0 np hsm
            have n0 : H0 p = none := S.fresh0 np
            have nT : p ≠ T := fun z => S.trk0 _ S.t0 (by rw [show (cf X T).T = p from z.symm]; exact n0)
            have P := (S.lock (o := dctO X.prog X.w p ep0 []) np).pin (D := p) (o := dctO X.prog X.w p ep0 []) (.inr rfl) upd_same (S.own_tracked np)
            refine ⟨T, _, _, _, ρ, τ, .dat kd, ρ1, τ1, P, e1, fun x M1 H1 S1 x1 r1 => ?_⟩
            refine ⟨T, _, _, M1, ρ1, τ1, .dat vd, _, _, S1, e2, fun y M2 H2 S2 x2 r2 => ?_⟩
            have xx := x1.trans x2
            have ep : H2 p = some (dctO X.prog X.w p ep0 []) := xx.keep p _ upd_same nT
            have mp : M2 p := S2.m0 p (.inr rfl)
            have S3 := S2.unpinE n0 S.t0 S.trk0
            refine ⟨ep, M2, kd, kk, vd, Rp.later (x2.later S1.mt) _ _ r1, ek, r2, fun ep1 xs ent nd => ?_⟩
            obtain ⟨S4, L⟩ := S3.poke (o := dctO X.prog X.w p ep1 xs) mp nT n0 S2.unpin_no
            refine k p M2 _ ⟨S4, fun b o eb nb => ?_, fun b m => xx.sub b m, np, mp, S2.unpin_no, hsm, by show 1 ≤ sizeLine; rw [sizeLine_eq]; omega, ep1, xs, upd_same, nd, ent.later L⟩
            have hb : b ≠ p := fun z => by rw [z, np] at eb; cases eb
            rw [upd_ne hb]
            exact xx.keep b o (by rw [upd_ne hb]; exact eb) nb
        | tape => cases ef
        | dct _ => cases ef
      | tape => cases ef
      | dct _ => cases ef
/-- x = {..}: the slot owns the dict -/
def ownKS (i : Nat) (f : KF) : SF := fun ρ τ => (f ρ τ).map fun r => .nx (r.2.1.set i (some (.ownD r.1))) r.2.2
theorem ownK_td {i : Nat} {f : KF} {σ : St} {H : Hp} {D : Ends} (h : tDS X (ownKS i f) D σ H) : tAsg (tDK X f) (gName i) D σ H := by
  obtain ⟨T, M0, H0, M, ρ, τ, o, S, ef, w⟩ := h
  unfold ownKS at ef
  cases e1 : f ρ τ with
  | none => rw [e1] at ef; cases ef
  | some r =>
    obtain ⟨kvs, ρ1, τ1⟩ := r
    rw [e1] at ef
    cases ef
    refine ⟨T, M0, H0, M, ρ, τ, kvs, ρ1, _, S, e1, fun a M' H' F => ?_⟩
    refine w _ M' H' (F.S.put fun z ez => ?_) ⟨fun b o e n => F.keep b o e fun z => n (by rw [z]; exact S.mt), fun b m => (F.sub b m).imp id fun z => by rw [z]; exact F.new⟩
    cases ez
    exact ⟨⟨a, rfl, F.lk, S.fresh0 F.new, F.it⟩, fun _ j t ej oj _ => F.no j t ej oj⟩
theorem ds_ownK {i : Nat} {x : Str} {pos' : Pos} {f : KF} (hN : X.N.Nodup) (hi : X.N[i]? = some x) (hx : Loc X.env.scope x) (he : DK X e f) (hs : swapsWith e (some (.Name x pos')) pos.line X.env = pure false := by rfl) (hf : X.fn x = true ∨ X.env.scope.names.lookup x = some .local := by first | exact .inl rfl | exact .inr rfl | assumption) :
    DS X (.Assign [.Name x pos'] e pos) (ownKS i f) := (ps_set hN hi hx he hs hf).mono fun D σ H h => ownK_td h
end
end ND

set_option Elab.async false
set_option linter.all false
set_option maxRecDepth 100000
set_option maxHeartbeats 4000000
/-! ND21: sorted(d); in, d[k], d.get as expressions; found, left = {..}, [..]. -/
namespace ND
open PySem PySem.Spec L2
open PyProof.Rows hiding St
section
variable {X : Cx} {e a b c : Expr} {f g : EF} {pos apos cpos : Pos} {M : MS} {H : Hp}
open PySem.W in
def rSortD (X : Cx) : List V → Hp → VK → Prop := fun vs H Q => ∃ T M a kvs, vs = [.ref a] ∧ DctAt (cf X T) M H a kvs ∧ sortOk (kvs.map (·.1)) = true ∧
  ∀ p ys, H p = none → EachIs (Rp M H) ys (sortD (kvs.map (·.1))) → Q (.ref p) (upd H p (.lst ys))
open PySem.W in
theorem keys_each {pins : List (Addr × Obj)} {σ : St} {s : Shared} (I : Inv X pins σ H s) {es : List DictEntry} {xs : List (NestedKey × Addr × Value)} {kvs : List (PyData × PyData)} (ent : EntAll M H xs kvs) (he : es = xs.map (entryOfKey (nestedKind X.prog X.w))) :
    EachIs (fun u d => ∃ v, RelV v u ∧ Rp M H v d) (es.map (·.key)) (kvs.map (·.1)) ∧ EachIs (fun v b => ∃ as, Reads s.heap v b as) (es.map (·.key)) (kvs.map (·.1)) := by
  subst he
  induction ent with
  | nil => exact ⟨.nil, .nil⟩
  | @cons k b u v kd vd xs kvs ek dp r q rv _ ih =>
    obtain ⟨as, hr⟩ := Dp.reads I kd (.ref b) (.ref b) (Rp.dp (K := X.K) _ _ r) rfl
    exact ⟨.cons ⟨.ref b, (rfl : Value.ref b = Value.ref b), r⟩ ih.1, .cons ⟨as, hr⟩ ih.2⟩
open PySem.W in
theorem cr_sortD (hc : X.calm = true) (hu : X.A.units + 64 < cLine) : CallR X (.builtin "sorted") (rSortD X) := by
  intro pins s σ H vs us Q I r h
  obtain ⟨T, M, a, kvs, rfl, hd, ok, q⟩ := h
  obtain ⟨al, sb, dp, hl⟩ := sortOk_all ok
  rw [Vals.ref1 r]
  obtain ⟨lo, few, xs, _, ⟨o, es, ep, e1, e2, e3, order, _, _⟩, ent⟩ := hd.dict I
  have size : es.size = kvs.length := (size_of_entries order).trans ent.length
  -- what is gathered are the keys, in the order of the entries
  have gather : ∀ (Q : List Value → Shared → Prop) (E : Value → Shared → Prop), (∀ (h1 : Heap) (t1 : Nat), (∀ b u, s.heap.get? b = some u → h1.get? b = some u) → Q (es.toList.map (·.key)) { s with heap := h1, toks := t1 }) → wpAny (model X.prog X.w) X.A.in1 (collect (.ref a)) Q E s := fun Q E k => by
    refine kdu_collect (KdlSrc.rawDict (es := es) (ep := ep) lo) (I.ok.hd hc) ⟨o, e1, e2, e3⟩ (size ▸ few) fun h1 t1 acc k1 ⟨n, each⟩ => ?_
    have same : acc.toList = es.toList.map (·.key) := by
      refine List.ext_getElem (by rw [List.length_map, Array.length_toList, Array.length_toList]; exact n) fun j l1 l2 => ?_
      obtain ⟨_, v⟩ := each j acc.toList[j] (by rw [← Array.getElem?_toList, List.getElem?_eq_getElem l1])
      rw [v, List.getElem_map, Array.getElem_toList]
    rw [same]
    exact k h1 t1 k1
  obtain ⟨stand, reads⟩ := keys_each I ent order
  refine sorted_gather gather stand reads al sb (by rw [List.length_map]; exact few) (fun d m => by have := dp d m; omega) fun h1 h2 t1 out n k1 k2 e len each => ?_
  obtain ⟨ys, rys, each'⟩ := each_vals each
  rw [← leD_eq, isort_merge leD_total] at each'
  have I1 : Inv X pins σ H { s with heap := h1, toks := t1 } := I.kept k1
  exact ⟨.ref _, _, I1.laid (t' := t1) (o := .lst ys) k2 (Nat.le_refl _) ⟨by rw [rys.length, len, List.length_map]; exact few, out, n, rys, e⟩, rfl, q _ ys (I1.hok.fresh (Nat.le_refl _)) each'⟩
/-- sorted of a dict, or of a sequence -/
def sortedK : List W → Option W
  | [.dct kvs] => if sortOk (kvs.map (·.1)) = true then some (.dat (.list (sortD (kvs.map (·.1))))) else none
  | ws => sortedF ws
open PySem.W in
theorem cd_sortedK : CallD X (fun vs H Q => rSortD X vs H Q ∨ rSortP X.K vs H Q) sortedK := fun T M H ws w vs Q e tr mt r k => by
  have other : sortedF ws = some w → rSortD X vs H Q ∨ rSortP X.K vs H Q := fun e => .inr (cd_sorted T M H ws w vs Q e tr mt r k)
  cases ws with
  | nil => exact other e
  | cons w1 rest =>
    cases rest with
    | cons w2 rest => exact other (by cases w1 <;> exact e)
    | nil =>
      cases w1 with
      | dat _ => exact other e
      | tape => exact other e
      | dct kvs =>
        by_cases ok : sortOk (kvs.map (·.1)) = true
        · rw [show sortedK [.dct kvs] = (if sortOk (kvs.map (·.1)) = true then some (.dat (.list (sortD (kvs.map (·.1))))) else none) from rfl, if_pos ok] at e
          cases e
          cases r with
          | cons r1 r2 =>
            cases r2
            obtain ⟨a, rfl, nT, hd⟩ := r1
            exact .inl ⟨T, M, a, kvs, rfl, hd, ok, fun p ys np hy => k _ _ (Gr.upd np) (Rp.lst upd_same (fun m => tr p m np) (RpAll.later (Gr.upd np).later _ _ (each_rp hy)))⟩
        · rw [show sortedK [.dct kvs] = (if sortOk (kvs.map (·.1)) = true then some (.dat (.list (sortD (kvs.map (·.1))))) else none) from rfl, if_neg ok] at e
          cases e
theorem dc_sortedK (hc : X.calm = true) (hu : X.A.units + 64 < cLine) {h : AF} {p : Pos} (hg : Gl X "sorted") (hm : X.mg "sorted" = none) (ha : DAB X [a] h) (hs : starEach [a] X.env = [(false, eval a X.env)] := by rfl) : DE X (.Call (.Name "sorted" p) [a] [] pos) (callF sortedK h) :=
  de_callB ((cr_sortD hc hu).or (cr_sortP hu)) cd_sortedK hg hm bb_sorted ha (by decide) (by decide) hs rfl
/-! in, not in -/
theorem de_inD (hu : X.A.units + 65 < cLine) (ha : DB X a f) (hb : DB X b g) (hm : behindInMarks .In b = false := by rfl) : DE X (.Compare a [.In] [b] pos) (op2 (inD false) f g) := de_cmp ((op_inD (by omega)).or (op_inP hu)) (opd_inD false) ha hb hm
theorem de_ninD (hu : X.A.units + 65 < cLine) (ha : DB X a f) (hb : DB X b g) (hm : behindInMarks .NotIn b = false := by rfl) : DE X (.Compare a [.NotIn] [b] pos) (op2 (inD true) f g) := de_cmp ((op_notInD (by omega)).or (op_notInP hu)) (opd_inD true) ha hb hm
theorem dt_inD (hu : X.A.units + 65 < cLine) (ha : DB X a f) (hb : DB X b g) (hm : behindInMarks .In b = false := by rfl) : DT X (.Compare a [.In] [b] pos) (tst (op2 (inD false) f g)) := dt_cmp ((op_inD (by omega)).or (op_inP hu)) (opd_inD false) ha hb hm
theorem dt_ninD (hu : X.A.units + 65 < cLine) (ha : DB X a f) (hb : DB X b g) (hm : behindInMarks .NotIn b = false := by rfl) : DT X (.Compare a [.NotIn] [b] pos) (tst (op2 (inD true) f g)) := dt_cmp ((op_notInD (by omega)).or (op_notInP hu)) (opd_inD true) ha hb hm
end
end ND

set_option Elab.async false
set_option linter.all false
set_option maxRecDepth 100000
set_option maxHeartbeats 4000000
/-! ND22: (x,) * n; found, left = {..}, [..]. -/
namespace ND
open PySem PySem.Spec L2
open PyProof.Rows hiding St
/-- t * 1 is t -/
theorem tuple_once (l : Addr) (items : Array Value) (n : Nat) (dd : Option Addr) (sl : Array (Option Value)) (u : Tok) :
    Meets (Builtin.«tuple.__mul__» ⟨[.ref l, .int 1 u], []⟩) (fun _ R s => s.heap.get? l = some { cls := .type "tuple", dict := dd, data := .seq items n, slots := sl } ∧ R (.ok (.ret (Value.ref l))) s) :=
  .of_wp fun prog w A R s h => by
    obtain ⟨at_l, q⟩ := h
    cases s
    have ix := AutoSeq1.idx_int
    wp_walk using wpAny_loadPart' at_l
    repeat (first
      | (refine wpAny_ite_false (by decide) ?_; wp_walk using wpAny_loadPart' at_l)
      | (refine wpAny_ite_true (by simp) ?_; wp_walk using wpAny_loadPart' at_l))
    exact ⟨_, rfl, q⟩
/-- what tuple.__mul__ asks of few items and a small factor -/
theorem mul_asks {its : List Value} {k : Int} (some_ : its ≠ []) (h1 : 2 ≤ k) (h2 : k ≤ 1000) (few : its.length ≤ 1000) :
    (decide (k < -(2 ^ 63)) || decide (k ≥ 2 ^ 63)) = false ∧ (its.toArray.isEmpty || k == 1) = false ∧ (decide (k ≤ 0) || its.toArray.isEmpty) = false ∧ ((its.toArray.size : Nat) : Int) * k ≤ 1000000 ∧ (List.replicate k.toNat its).flatten.length ≤ 1000000 := by
  have full : its.toArray.isEmpty = false := by simpa using some_
  refine ⟨by simp; omega, by rw [full]; simp; omega, by rw [full]; simp; omega, ?_, ?_⟩
  · exact Int.le_trans (Int.mul_le_mul (by rw [List.size_toArray]; exact Int.ofNat_le.mpr few) h2 (by omega) (by omega)) (by decide)
  · rw [PyProof.Rows.lm_len_rep_flat]
    exact Nat.le_trans (Nat.mul_le_mul (Int.toNat_le.mpr h2 : k.toNat ≤ 1000) few) (by decide)
/-- t * k -/
def rRepF (K : PySem.W.Frag) : R2 := fun x y H Q => ∃ l k xs, x = .ref l ∧ y = .int k ∧ SqT K H l xs ∧ xs ≠ [] ∧ 1 ≤ k ∧ k ≤ 1000 ∧ xs.length ≤ 1000 ∧ (k = 1 → Q (.ref l) H) ∧ NewT H (List.replicate k.toNat xs).flatten Q
section
variable {X : Cx}
theorem op_repF : OpR X (binaryOp .Mult) (rRepF X.K) := by
  rintro pins s σ H _ _ v u Q I rx ry ⟨l, k, xs, rfl, rfl, sq, ne, h1, h2, few, once, more⟩
  cases rx
  obtain ⟨t, rfl⟩ := ry
  obtain ⟨its, rel, ⟨⟨cls, dd, dat, sl⟩, at_l, ec, n, ed⟩, _⟩ := I.tuple sq
  cases (show cls = .type "tuple" from ec)
  cases (show dat = .seq its.toArray n from ed)
  have len := rel.length
  have ty : s.TypeIs (.ref l) "tuple" := ⟨_, at_l, rfl⟩
  -- the number's own code gives way to the tuple's
  refine wpAny_binaryOp_repeat_ref (by decide) ty (fun s' => typeIs_int s' k t) noFill_tuple_mul F.fills_int_mul F.slot_int_rmul repeat_tuple F.slot_int_index.lookup
    (call_meets F.slot_int_rmul (typeIs_int s k t) F.entry_int_rmul (F.args_int_rmul_2 _ _) (int_rmul_tuple k t l its.toArray n dd sl) ⟨at_l, rfl, ty, ?_⟩)
  rcases Int.lt_or_eq_of_le h1 with lt | rfl
  · obtain ⟨c0, c1, c2, c3, c4⟩ := mul_asks (its := its) (fun z => ne (List.eq_nil_of_length_eq_zero (by rw [len, z]; rfl))) (by omega) h2 (len ▸ few)
    refine call_meets F.slot_tuple_mul ty F.entry_tuple_mul (F.args_tuple_mul_2 _ _) (tuple_mulW l its.toArray n dd sl k t c0 c1 c2 (by omega) (decide_eq_false (by rw [sizeLine_eq]; omega)) (by rw [size_rep, List.size_toArray, sizeLine_eq]; omega)) ⟨at_l, ?_⟩
    have rep := rel.rep k.toNat
    rw [size_rep]
    exact new_tup I rep (by rw [rep.length, sizeLine_eq]; omega) more
  · exact call_meets F.slot_tuple_mul ty F.entry_tuple_mul (F.args_tuple_mul_2 _ _) (tuple_once l its.toArray n dd sl t) ⟨at_l, .ref l, H, I, rfl, once rfl⟩
variable {e a b c : Expr} {f g : EF} {pos apos cpos : Pos}
def repP : PyData → PyData → Option PyData
  | .tuple ds, .int k => if ds ≠ [] ∧ 1 ≤ k ∧ k ≤ 1000 ∧ ds.length ≤ 1000 then some (.tuple (List.replicate k.toNat ds).flatten) else none
  | _, _ => none
theorem RpAll.rep {M : MS} {H : Hp} {ds : List PyData} {vs : List V} (h : RpAll M H vs ds) : ∀ n, RpAll M H (List.replicate n vs).flatten (List.replicate n ds).flatten
  | 0 => .nil
  | n + 1 => by
    rw [List.replicate_succ, List.replicate_succ, List.flatten_cons, List.flatten_cons]
    exact h.append (RpAll.rep h n)
theorem opp_rep : OpP X (rRepF X.K) repP := fun T M H a b d v1 v2 Q e tr r1 r2 k => by
  cases a with
  | tuple ds =>
    cases b with
    | int j =>
      by_cases hj : ds ≠ [] ∧ 1 ≤ j ∧ j ≤ 1000 ∧ ds.length ≤ 1000
      · rw [show repP (.tuple ds) (.int j) = (if ds ≠ [] ∧ 1 ≤ j ∧ j ≤ 1000 ∧ ds.length ≤ 1000 then some (.tuple (List.replicate j.toNat ds).flatten) else none) from rfl, if_pos hj] at e
        cases e
        cases (show Rp M H v1 (.tuple ds) from r1) with
        | @tup l o xs _ e1 dn n1 q1 =>
          cases (show Rp M H v2 _ from r2)
          refine ⟨l, j, xs, rfl, rfl, sqt e1, fun z => hj.1 (by rw [z] at q1; cases q1; rfl), hj.2.1, hj.2.2.1, by rw [q1.length]; exact hj.2.2.2, fun z => ?_, fun p o' np dn' => ?_⟩
          · subst z
            have : (List.replicate (1 : Int).toNat ds).flatten = ds := by simp
            rw [this] at k
            exact k _ H (Gr.refl H) (Rp.tup e1 dn n1 q1)
          · exact k _ _ (Gr.upd np) (Rp.tup upd_same dn' (fun m => tr p m np) (RpAll.later (Gr.upd np).later _ _ (q1.rep _)))
      · rw [show repP (.tuple ds) (.int j) = (if ds ≠ [] ∧ 1 ≤ j ∧ j ≤ 1000 ∧ ds.length ≤ 1000 then some (.tuple (List.replicate j.toNat ds).flatten) else none) from rfl, if_neg hj] at e
        cases e
    | _ => cases e
  | _ => cases e
def repW := d2 repP
theorem de_rep (ha : DB X a f) (hb : DB X b g) : DE X (.BinOp a .Mult b pos) (op2 repW f g) := de_bin op_repF opp_rep.d ha hb
/-- x, y = {..}, [..]: both are owned -/
def parKLS (i j : Nat) (f : KF) (k : FF) : SF := fun ρ τ => (f ρ τ).bind fun r => (k r.2.1 r.2.2).map fun q => .nx ((q.2.1.set i (some (.ownD r.1))).set j (some (.own q.1))) q.2.2
theorem parKL_td {i j : Nat} {f : KF} {k : FF} (hij : i ≠ j) {σ : St} {H : Hp} {D : Ends} (h : tDS X (parKLS i j f k) D σ H) : tPar i j (tCons (tDK X f) (tCons (tDN X k) tNil)) D σ H := by
  obtain ⟨T, M0, H0, M, ρ, τ, o, S, ef, w⟩ := h
  unfold parKLS at ef
  cases e1 : f ρ τ with
  | none => rw [e1] at ef; cases ef
  | some r =>
    obtain ⟨kvs, ρ1, τ1⟩ := r
    rw [e1] at ef
    simp only [Option.bind_some] at ef
    cases e2 : k ρ1 τ1 with
    | none => rw [e2] at ef; cases ef
    | some q =>
      obtain ⟨ds, ρ2, τ2⟩ := q
      rw [e2] at ef
      cases ef
      refine ⟨T, M0, H0, M, ρ, τ, kvs, ρ1, τ1, S, e1, fun a M1 H1 F => ?_⟩
      have n0 := S.fresh0 F.new
      have nT : a ≠ T := fun z => S.trk0 _ S.t0 (by rw [show (cf X T).T = a from z.symm]; exact n0)
      obtain ⟨hs1, hs2, ep, xs, ea, nd, ent⟩ := F.it
      have P := F.S.pin (D := a) (o := dctO X.prog X.w a ep xs) F.lk ea F.no
      refine ⟨T, _, _, M1, ρ1, τ1, ds, ρ2, _, P, e2, fun b M2 H2 G => ?_⟩
      have ea2 : H2 a = some (dctO X.prog X.w a ep xs) := G.keep a _ ea nT
      have ma2 : M2 a := G.S.m0 a (.inr rfl)
      have no2 := G.S.unpin_no
      have S3 := G.S.unpinE n0 S.t0 S.trk0
      have L1 : Later M H M1 H1 := ⟨fun b o eb nb => F.keep b o eb fun z => nb (by rw [z]; exact S.mt), fun b m => (F.sub b m).imp id fun z => by rw [z]; exact F.new⟩
      have L2 : Later M1 H1 M2 H2 := ⟨fun b o eb nb => G.keep b o eb fun z => nb (by rw [z]; exact F.S.mt), fun c m => (G.sub c m).imp id fun z => by rw [z]; exact G.new⟩
      have nab : b ≠ a := fun z => by have := G.new; rw [z, ea] at this; cases this
      have nb0 : H0 b = none := by
        have := P.fresh0 G.new
        rw [upd_ne nab] at this
        exact this
      obtain ⟨ys, eb, qb⟩ := G.it
      refine ⟨_, _, rfl, ?_⟩
      have S4 := S3.put (i := i) (s := some (.ownD kvs)) (v := .ref a) fun z ez => by
        cases ez
        exact ⟨⟨a, rfl, ma2, n0, hs1, hs2, ep, xs, ea2, nd, ent.later L2⟩, fun _ l t el ol _ => no2 l t el ol⟩
      have S5 := S4.put (i := j) (s := some (.own ds)) (v := .ref b) fun z ez => by
        cases ez
        refine ⟨⟨b, ys, rfl, eb, G.lk, nb0, qb⟩, fun _ l t el ol nl z => ?_⟩
        rcases get_set el with ⟨hl, _, hlt⟩ | ⟨hl, el'⟩
        · rw [hl, List.getElem?_set_self (by rw [← S3.len]; exact hlt)] at z
          cases z
          exact nab rfl
        · rw [List.getElem?_set_ne (Ne.symm hl)] at z
          exact G.no l t el' ol z
      exact w _ M2 H2 S5 (L1.trans L2)
theorem ds_parKL {st : Stmt} {i j : Nat} {f : KF} {k : FF} (hij : i ≠ j) (h : PS X st (tPar i j (tCons (tDK X f) (tCons (tDN X k) tNil)))) : DS X st (parKLS i j f k) := h.mono fun _ _ _ q => parKL_td hij q
theorem _root_.L2.Room.u9 {k : Nat} {A : Around} (r : Room k A) : A.units + 9 < cLine := by have := r.u65; omega
end
/-! by equations -/
section
variable {ρ ρ1 ρ2 ρ3 : EnvD} {τ τ1 τ2 τ3 : Tape} {f g : EF} {k : FF} {kf : KF} {w : W}
theorem ev_dnew : dnewK ρ τ = some ([], ρ, τ) := rfl
theorem ev_disp {kd vd : PyData} {kk : NestedKey} (h1 : f ρ τ = some (.dat kd, ρ1, τ1)) (h2 : g ρ1 τ1 = some (.dat vd, ρ2, τ2)) (h3 : keyOf kd = some kk) : dispK f g ρ τ = some ([(kd, vd)], ρ2, τ2) := by
  unfold dispK; rw [h1]; simp only [Option.bind_some]; rw [h2]; simp only [Option.bind_some]; rw [h3]; rfl
theorem ev_ownK {i : Nat} {kvs : List (PyData × PyData)} (h1 : kf ρ τ = some (kvs, ρ1, τ1)) (h2 : ρ1.set i (some (.ownD kvs)) = ρ2) : ownKS i kf ρ τ = some (.nx ρ2 τ1) := by unfold ownKS; rw [h1, ← h2]; rfl
theorem ev_setD {i : Nat} {kvs0 kvs : List (PyData × PyData)} {d kd : PyData} (h1 : f ρ τ = some (.dat d, ρ1, τ1)) (h0 : ownDAt ρ1 i = some kvs0) (h2 : g ρ1 τ1 = some (.dat kd, ρ2, τ2)) (h3 : ownDAt ρ2 i = some kvs) (h4 : (keyOf kd).isSome = true ∧ kvs.length < 16777216) (h5 : ρ2.set i (some (.ownD (putD kvs kd d))) = ρ3) : setDS i f g ρ τ = some (.nx ρ3 τ2) := by
  unfold setDS; rw [h1]; simp only [Option.bind_some]; rw [h0]; simp only [Option.bind_some]; rw [h2]; simp only [Option.bind_some]; rw [h3]; simp only [Option.bind_some]; rw [if_pos h4, h5]
theorem ev_parKL {i j : Nat} {kvs : List (PyData × PyData)} {ds : List PyData} (h1 : kf ρ τ = some (kvs, ρ1, τ1)) (h2 : k ρ1 τ1 = some (ds, ρ2, τ2)) (h3 : (ρ2.set i (some (.ownD kvs))).set j (some (.own ds)) = ρ3) : parKLS i j kf k ρ τ = some (.nx ρ3 τ2) := by
  unfold parKLS; rw [h1]; simp only [Option.bind_some]; rw [h2, ← h3]; rfl
theorem ev_pop {i j : Nat} {ds : List PyData} {d : PyData} (h1 : ownAt ρ i = some (ds ++ [d])) (h2 : (ρ.set i (some (.own ds))).set j (some (.val (.dat d))) = ρ1) : popS j i ρ τ = some (.nx ρ1 τ) := by
  unfold popS
  rw [h1]
  simp only [Option.bind_some, List.length_append, List.length_singleton, Nat.add_sub_cancel, List.dropLast_concat]
  rw [List.getElem?_append_right (Nat.le_refl _), Nat.sub_self, ← h2]
  rfl
end
end ND

set_option Elab.async false
set_option linter.all false
set_option maxRecDepth 100000
set_option maxHeartbeats 4000000
/-! ND23: d.items() gone through. -/
namespace ND
open PySem PySem.Spec L2
open PyProof.Rows hiding St
/-- the entries' values -/
def ValsAt (xs : List (NestedKey × Addr × Value)) (vs : List V) : Prop := xs.length = vs.length ∧ ∀ (i : Nat) (x : NestedKey × Addr × Value) (v : V), xs[i]? = some x → vs[i]? = some v → RelV v x.2.2
theorem EntAll.vals {M : MS} {H : Hp} {xs : List (NestedKey × Addr × Value)} {kvs : List (PyData × PyData)} (h : EntAll M H xs kvs) :
    ∃ vs : List V, ValsAt xs vs ∧ ∀ (i : Nat) (p : PyData × PyData), kvs[i]? = some p → ∃ x v, xs[i]? = some x ∧ vs[i]? = some v ∧ Rp M H (.ref x.2.1) p.1 ∧ Rp M H v p.2 := by
  induction h with
  | nil => exact ⟨[], ⟨rfl, fun i x v e => by simp at e⟩, fun i p e => by simp at e⟩
  | @cons k b u v kd vd xs kvs ek dp r q rv _ ih =>
    obtain ⟨vs, ⟨hl, hv⟩, h2⟩ := ih
    refine ⟨v :: vs, ⟨by rw [List.length_cons, List.length_cons, hl], fun i x w e e2 => ?_⟩, fun i p e => ?_⟩
    · cases i with
      | zero => cases e; cases e2; exact q
      | succ i => exact hv i x w e e2
    · cases i with
      | zero => cases e; exact ⟨_, _, rfl, rfl, r, rv⟩
      | succ i => exact h2 i p e
/-- what d.items() yields: a new tuple of key and value each time -/
def Itm (P : Program) (w : World) (d : Addr) (ep : Nat) (xs : List (NestedKey × Addr × Value)) (vs : List V) : It :=
  ⟨fun i H => H d = some (dctO P w d ep xs) ∧ i < xs.length, fun i H x H' => ∃ T y v, xs[i]? = some y ∧ vs[i]? = some v ∧ x = .ref T ∧ H T = none ∧ H' = upd H T (.tup [.ref y.2.1, v]), fun i H => H d = some (dctO P w d ep xs) ∧ xs.length = i⟩
section
variable {X : Cx} {pins : List (Addr × Obj)} {σ : St} {H : Hp} {s : Shared} {d : Addr} {ep : Nat} {xs : List (NestedKey × Addr × Value)}
theorem dctO_raw (I : Inv X pins σ H s) (h : H d = some (dctO X.prog X.w d ep xs)) : ∃ es, DT.Raw s.heap d es ep ∧ es.toList = xs.map (entryOfKey (nestedKind X.prog X.w)) := by
  obtain ⟨⟨o, es, g1, g2, g3, g4⟩, _⟩ := I.hok d _ h
  exact ⟨es, ⟨o, g1, g2, g3⟩, g4⟩
end
theorem entry_ix {P : Program} {w : World} {es : Array DictEntry} {xs : List (NestedKey × Addr × Value)} (he : es.toList = xs.map (entryOfKey (nestedKind P w))) {i : Nat} (hi : i < es.size) : ∃ y, xs[i]? = some y ∧ es[i].key = .ref y.2.1 ∧ es[i].val = y.2.2 := by
  have h1 : es.toList[i]? = some es[i] := by rw [Array.getElem?_toList, Array.getElem?_eq_getElem hi]
  rw [he, List.getElem?_map] at h1
  cases e : xs[i]? with
  | none => rw [e] at h1; cases h1
  | some y =>
    rw [e] at h1
    simp only [Option.map_some, Option.some.injEq] at h1
    exact ⟨y, rfl, by rw [← h1]; rfl, by rw [← h1]; rfl⟩
theorem turn_itm {P : Program} {w : World} {K : PySem.W.Frag} {d : Addr} {ep : Nat} {xs : List (NestedKey × Addr × Value)} {vs : List V} {elts : List Expr} {kk : Nat} {tpos : Pos} (hv : ValsAt xs vs) (it : Addr) (hdi : d ≠ it) :
    Turn P w K (.Tuple elts kk tpos) (Itm P w d ep xs vs) [it] it (fun i h => ∃ k v, IsItemIter h it d i xs.length ep k v) := by
  refine turn_walk (by simp) (fun i h ⟨_, _, e⟩ b hb => by rw [List.mem_singleton.mp hb]; exact ⟨_, e, fun _ z => nomatch z⟩) (fun i h h' ⟨k, v, e⟩ same => ⟨k, v, same it (by simp) _ e⟩) (fun A i s Q E ⟨_, _, e⟩ q => PySem.W.kcp_self e q)
    fun X i pins s σ H eP ew eK free I at_it gs => ?_
  subst eP ew eK
  have at_d : H d = some (dctO X.prog X.w d ep xs) := gs.elim And.left And.left
  obtain ⟨es, raw, order⟩ := dctO_raw I at_d
  have size : es.size = xs.length := by rw [← Array.length_toList, order, List.length_map]
  rw [← size] at at_it
  refine ⟨_, _, _, _, _, WalksT.rawItems (A := X.A) free it d hdi es ep, ⟨at_it, raw⟩, fun h st => size ▸ st.1, fun go => ⟨size ▸ go.2, fun us ⟨lt, eu⟩ => ?_⟩, fun stop => stop.2.symm.trans size.symm⟩
  subst eu
  obtain ⟨y, ey, ek, ev⟩ := entry_ix order lt
  have ev' : vs[i]? = some (vs[i]'(hv.1 ▸ go.2)) := List.getElem?_eq_getElem _
  refine ⟨[.ref y.2.1, vs[i]'(hv.1 ▸ go.2)], ?_, (by show 2 ≤ sizeLine; decide), fun T new => ⟨T, y, _, ey, ev', rfl, new, rfl⟩⟩
  rw [ek, ev]
  exact .cons rfl (.cons (hv.2 i y _ ey ev') .nil)
def iItm (X : Cx) (td : TE) : TI := fun σ H R => td σ H fun x H1 => ∃ d ep xs vs, x = .ref d ∧ (d == sysModules) = false ∧ H1 d = some (dctO X.prog X.w d ep xs) ∧ ValsAt xs vs ∧ R (Itm X.prog X.w d ep xs vs) H1
section
variable {X : Cx} {e : Expr} {f : EF} {apos cpos : Pos}
theorem pi_itm {td : TE} {elts : List Expr} {kk : Nat} {tpos : Pos} (he : PE X e td) (hbase : attributeBase e "items" X.env (eval e X.env) = eval e X.env := by rfl) (hline : (apos.endLine == cpos.line) = true := by rfl) :
    PI X (.Tuple elts kk tpos) (.Call (.Attribute e "items" apos) [] [] cpos) (iItm X td) := .mk fun pins s σ H R I h => by
  refine wpAny_Call_method (T := "dict") (id := "dict.items") hbase rfl hline F.plainAttrs_dict F.slot_dict_items F.type_dict_items (thn (he.run pins s σ H _ I h) fun u s1 ⟨x, H1, I1, rx, d, ep, xs, vs, ex, sys, at_d, hv, q⟩ => ?_)
  subst ex
  cases rx
  obtain ⟨es, raw, order⟩ := dctO_raw I1 at_d
  have size : es.size = xs.length := by rw [← Array.length_toList, order, List.length_map]
  refine ⟨raw.typeIs, fun b eb => let ⟨o, e, exact_, _⟩ := id raw; Value.ref.inj eb ▸ ⟨o, e, exact_.2.1⟩, ?_⟩
  -- the view, and then its iterator
  generalize eo : ({ cls := .type "dict_items", data := .fields #[.ref d] } : Obj) = view
  have at_view : (s1.heap.push view).get? s1.heap.objs.size = some view := by rw [← eo]; exact Heap.get?_push_size _ rfl
  have I2 : Inv X pins σ H1 { s1 with heap := s1.heap.push view } := I1.kept (t' := s1.toks) fun _ _ => Heap.get?_push_of_some _
  have lt : d < (s1.heap.push view).objs.size := Heap.lt_size (Heap.get?_push_of_some view raw.choose_spec.1)
  have walked : wpAny (model X.prog X.w) X.A (pyIter (.ref s1.heap.objs.size)) (PIE X pins σ (.Tuple elts kk tpos) R) X.xe { s1 with heap := s1.heap.push view } := by
    refine DT.iterI (d := d) (es := es) (ep := ep) ⟨_, at_view, by rw [← eo], by rw [← eo]⟩ (raw.push _) (pi_one (tk := s1.toks) I2 _ (turn_itm hv _ (Nat.ne_of_lt lt)) ⟨.none, .none, ?_⟩ q)
    rw [← size]
    exact Heap.get?_push_size _ rfl
  subst eo
  exact method_meetsIn F.slot_dict_items F.entry_dict_items rfl (PySem.evalArgs_none ⟨rfl, raw.typeIs, F.args_dict_items_1 _, _, DT.meetsItems (es := es) (ep := ep) sys, ⟨raw, walked⟩⟩)
/-- d.items() -/
def itemsD (kvs : List (PyData × PyData)) : List PyData := kvs.map fun p => .tuple [p.1, p.2]
def itemsI (f : EF) : FF := fun ρ τ => (f ρ τ).bind fun r => match r.1 with
  | .dct kvs => some (itemsD kvs, r.2.1, r.2.2)
  | _ => none
theorem di_items {elts : List Expr} {kk : Nat} {tpos : Pos} (he : DE X e f) (hbase : attributeBase e "items" X.env (eval e X.env) = eval e X.env := by rfl) (hline : (apos.endLine == cpos.line) = true := by rfl) :
    DI X (.Tuple elts kk tpos) (.Call (.Attribute e "items" apos) [] [] cpos) false (itemsI f) :=
  (pi_itm he hbase hline).mono fun σ H R ⟨T, M0, H0, M, ρ, τ, items, ρ', τ', S, ef, k⟩ => by
    unfold itemsI at ef
    cases e1 : f ρ τ with
    | none => rw [e1] at ef; cases ef
    | some r =>
      obtain ⟨w, ρ1, τ1⟩ := r
      rw [e1] at ef
      simp only [Option.bind_some] at ef
      refine ⟨T, M0, H0, M, ρ, τ, w, ρ1, τ1, S, e1, fun v M' H' S' x r => ?_⟩
      cases w with
      | dat _ => cases ef
      | tape => cases ef
      | dct kvs =>
        cases ef
        obtain ⟨a, rfl, nM, h1, h2, ep, xs, ea, nd, ent⟩ := r
        obtain ⟨vs, hv, hent⟩ := ent.vals
        refine ⟨a, ep, xs, vs, rfl, h1, ea, hv, k _ M' H' S' x ⟨fun M2 H2 L tr i d ed => ?_, fun M2 H2 L => ?_⟩⟩
        · unfold itemsD at ed
          rw [List.getElem?_map] at ed
          cases ek : kvs[i]? with
          | none => rw [ek] at ed; cases ed
          | some p =>
            rw [ek] at ed
            cases ed
            obtain ⟨y, v, hy, hvi, r1, r2⟩ := hent i p ek
            refine ⟨⟨L.keep _ _ ea nM, (List.getElem?_eq_some_iff.mp hy).1⟩, ?_⟩
            rintro _ H3 ⟨p', y', v', hy', hv', rfl, np, eh⟩
            rw [hy] at hy'
            cases hy'
            rw [hvi] at hv'
            cases hv'
            exact zip_yld tr np eh (Rp.later L _ _ r1) (Rp.later L _ _ r2)
        · refine ⟨L.keep _ _ ea nM, ?_⟩
          unfold itemsD
          rw [List.length_map, ent.length]
end
section
variable {ρ ρ1 : EnvD} {τ τ1 : Tape} {f : EF}
theorem ev_items {kvs : List (PyData × PyData)} (h : f ρ τ = some (.dct kvs, ρ1, τ1)) : itemsI f ρ τ = some (itemsD kvs, ρ1, τ1) := by unfold itemsI; rw [h]; rfl
end
end ND

set_option Elab.async false
set_option linter.all false
set_option maxRecDepth 100000
set_option maxHeartbeats 4000000
/-! ND24: d.get(k, x), len(d), min of a list of data. -/
namespace ND
open PySem PySem.Spec L2
open PyProof.Rows hiding St
section
variable {X : Cx} {o e d a : Expr} {f g h : EF} {apos cpos pos p : Pos}
/-! get -/
def tGetD (X : Cx) (td ty tx : TE) : TE := fun σ H Q => td σ H fun x H1 => ∃ a T M kvs, x = .ref a ∧ DctAt (cf X T) M H1 a kvs ∧ ty σ H1 fun y H2 => tx σ H2 fun z H3 => ∃ M' kd k, DctAt (cf X T) M' H3 a kvs ∧ Rp M' H3 y kd ∧ keyOf kd = some k ∧
  (∀ v vd, lookD kvs kd = some vd → Rp M' H3 v vd → Q v H3) ∧ (lookD kvs kd = none → Q z H3)
theorem pe_getD {td ty tx : TE} (hu : X.A.units + 9 < cLine) (ho : PE X o td) (he : PE X e ty) (hf : PE X d tx) (m : M2 X o "get" apos e d cpos) : PE X (.Call (.Attribute o "get" apos) [e, d] [] cpos) (tGetD X td ty tx) := by
  refine ⟨fun pins s σ H Q I h => ?_⟩
  refine wpAny_Call_method m.base m.few m.line PySem.F.plainAttrs_dict PySem.F.slot_dict_get PySem.F.type_dict_get (thn (ho.run pins s σ H _ I h) fun u s1 ⟨x, H1, I1, rx, a, T, M, kvs, ex, hd, q1⟩ => ?_)
  subst ex
  obtain rfl : u = Value.ref a := rx
  obtain ⟨_, _, xs, _, dd, _⟩ := hd.dict I1
  refine ⟨dd.typeIs, ?_, ?_⟩
  · obtain ⟨ob, _, _, g1, g2, _⟩ := dd
    intro b eb
    cases eb
    exact ⟨ob, g1, g2.2.1⟩
  rw [m.trees]
  refine Calls.callWith_builtin rfl (Calls.evalArgs_plain (Calls.spliced_cons (thn (he.run pins s1 σ H1 _ I1 q1) fun iv s2 ⟨y, H2, I2, ry, q2⟩ =>
    Calls.spliced_cons (thn (hf.run pins s2 σ H2 _ I2 q2) fun fv s3 ⟨z, H3, I3, rz, M', kd, k, hd3, hy, ek, qs, qn⟩ => Calls.spliced_nil ?_))))
  obtain ⟨h1, h2, xs3, _, dd3, ent⟩ := hd3.dict I3
  obtain ⟨b, rfl, rfl, his⟩ := rp_key I3 hy ry ek
  refine getOr_keyed (knd := nestedKind X.prog X.w) (kvs := pairsH xs3) (by show X.A.units + 1 + 8 < cLine; omega) his h1 ⟨xs3, dd3, rfl⟩ ?_
  rw [valueAt_pairsH]
  rcases ent.look (keyOf_some ek).1 with ⟨z1, z2⟩ | ⟨b', u', v', vd', ea, eb, rv, rp⟩
  · rw [z1]
    exact ⟨z, H3, keyd_tok I3, rz, qn z2⟩
  · rw [ea]
    exact ⟨v', H3, keyd_tok I3, rv, qs v' vd' eb rp⟩
def getE (f g h : EF) : EF := fun ρ τ => (f ρ τ).bind fun r => (g r.2.1 r.2.2).bind fun q => (h q.2.1 q.2.2).bind fun t => match r.1, q.1, t.1 with
  | .dct kvs, .dat kd, .dat dd => (keyOf kd).map fun _ => (.dat ((lookD kvs kd).getD dd), t.2.1, t.2.2)
  | _, _, _ => none
theorem de_get (hu : X.A.units + 9 < cLine) (ho : DB X o f) (he : DB X e g) (hf : DE X d h) (m : M2 X o "get" apos e d cpos) : DE X (.Call (.Attribute o "get" apos) [e, d] [] cpos) (getE f g h) := (pe_getD hu ho he hf m).mono fun σ H Q ⟨T, M0, H0, M, ρ, τ, w, ρ', τ', S, ef, k⟩ => by
  unfold getE at ef
  cases e1 : f ρ τ with
  | none => rw [e1] at ef; cases ef
  | some r =>
    obtain ⟨w1, ρ1, τ1⟩ := r
    rw [e1] at ef
    simp only [Option.bind_some] at ef
    cases e2 : g ρ1 τ1 with
    | none => rw [e2] at ef; cases ef
    | some q =>
      obtain ⟨w2, ρ2, τ2⟩ := q
      rw [e2] at ef
      simp only [Option.bind_some] at ef
      cases e3 : h ρ2 τ2 with
      | none => rw [e3] at ef; cases ef
      | some t =>
        obtain ⟨w3, ρ3, τ3⟩ := t
        rw [e3] at ef
        simp only [Option.bind_some] at ef
        refine ⟨T, M0, H0, M, ρ, τ, w1, ρ1, τ1, S, e1, fun v1 M1 H1 S1 x1 r1 => ?_⟩
        cases w1 with
        | dat _ => cases ef
        | tape => cases ef
        | dct kvs =>
          cases w2 with
          | tape => cases ef
          | dct _ => cases ef
          | dat kd =>
            cases w3 with
            | tape => cases ef
            | dct _ => cases ef
            | dat dd =>
              cases ek : keyOf kd with
              | none => simp only [ek] at ef; cases ef
              | some kk =>
                simp only [ek] at ef
                cases ef
                obtain ⟨a, rfl, nT, hd⟩ := id r1
                obtain ⟨_, _, ds, ed⟩ := keyOf_some ek
                refine ⟨a, T, M1, kvs, rfl, hd, T, M0, H0, M1, ρ1, τ1, .dat kd, ρ2, τ2, S1, e2, fun v2 M2 H2 S2 x2 r2 => ?_⟩
                refine ⟨T, M0, H0, M2, ρ2, τ2, .dat dd, _, _, S2, e3, fun v3 M3 H3 S3 x3 r3 => ?_⟩
                have x23 := x2.trans x3
                obtain ⟨a', ea, _, hd3⟩ := RB.ex (w := .dct kvs) S1.mt x23 r1
                cases ea
                have hk3 : Rp M3 H3 v2 kd := Rp.later (x3.later S2.mt) _ _ (r2.rp ed)
                refine ⟨M3, kd, kk, hd3, hk3, ek, fun v vd el rv => ?_, fun el => ?_⟩
                · refine k v M3 H3 S3 ((x1.trans x2).trans x3) ?_
                  rw [el]
                  exact rv
                · refine k v3 M3 H3 S3 ((x1.trans x2).trans x3) ?_
                  rw [el]
                  exact r3
/-! len -/
def rLenD (X : Cx) : List V → Hp → VK → Prop := fun vs H Q => ∃ T M a kvs, vs = [.ref a] ∧ DctAt (cf X T) M H a kvs ∧ Q (.int kvs.length) H
theorem cr_lenD : CallR X (.builtin "len") (rLenD X) := by
  intro pins s σ H xs us Q I r h
  obtain ⟨T, M, a, kvs, rfl, hd, q⟩ := h
  obtain ⟨u, rfl, rx⟩ := vals1 r
  obtain rfl : u = .ref a := rx
  obtain ⟨h1, h2, ys, _, dd, ent⟩ := hd.dict I
  have hl := ent.length
  refine call_len_dictH h1 dd (by rw [hl]; rw [sizeLine_eq] at h2; omega) ?_
  rw [hl]
  exact ⟨.int ((kvs.length : Nat) : Int), H, I.tok _, ⟨_, rfl⟩, q⟩
def lenK : List W → Option W
  | [.dct kvs] => some (.dat (.int kvs.length))
  | ws => lenF ws
theorem cd_lenK : CallD X (fun vs H Q => rLenD X vs H Q ∨ rLenP X.K vs H Q) lenK := fun T M H ws w vs Q e tr mt r k => by
  have other : lenF ws = some w → rLenD X vs H Q ∨ rLenP X.K vs H Q := fun e => .inr (cd_len T M H ws w vs Q e tr mt r k)
  cases ws with
  | nil => exact other e
  | cons w1 rest =>
    cases rest with
    | cons w2 rest => exact other (by cases w1 <;> exact e)
    | nil =>
      cases w1 with
      | dat _ => exact other e
      | tape => exact other e
      | dct kvs =>
        cases e
        cases r with
        | cons r1 r2 =>
          cases r2
          obtain ⟨a, rfl, nT, hd⟩ := r1
          exact .inl ⟨T, M, a, kvs, rfl, hd, k _ H (Gr.refl H) (Rp.int _)⟩
theorem dc_lenK {h : AF} (hg : Gl X "len") (hm : X.mg "len" = none) (ha : DAB X [a] h) (hs : starEach [a] X.env = [(false, eval a X.env)] := by rfl) : DE X (.Call (.Name "len" p) [a] [] pos) (callF lenK h) :=
  de_callB (cr_lenD.or cr_lenP) cd_lenK hg hm bb_len ha (by decide) (by decide) hs rfl
end
end ND

set_option Elab.async false
set_option linter.all false
set_option maxRecDepth 100000
set_option maxHeartbeats 4000000
/-! ND25: min of a list of data. -/
namespace ND
open PySem PySem.Spec L2
open PyProof.Rows hiding St
open PySem.W (alike minD AlikeAll dataLt)
section
variable {X : Cx} {a : Expr} {pos p : Pos}
theorem minD_mem : ∀ (xs : List PyData) (x : PyData), minD x xs ∈ x :: xs
  | [], x => List.mem_cons_self
  | y :: ys, x => by
    have h : minD x (y :: ys) = minD (if dataLt y x = true then y else x) ys := rfl
    rw [h]
    split
    · exact List.mem_cons_of_mem _ (minD_mem ys y)
    · rcases List.mem_cons.mp (minD_mem ys x) with e | m
      · rw [e]; exact List.mem_cons_self
      · exact List.mem_cons_of_mem _ (List.mem_cons_of_mem _ m)
def minOk (ds : List PyData) : Bool := ds.all (fun a => ds.all fun b => alike a b) && ds.all (fun a => !isNone a) && ds.all (fun a => decide (a.depth ≤ 60))
theorem depthAll_le {n : Nat} : ∀ ds : List PyData, (∀ d ∈ ds, d.depth ≤ n) → PyData.depthAll ds ≤ n
  | [], _ => Nat.zero_le _
  | d :: ds, h => by
    rw [PyData.depthAll]
    have := h d List.mem_cons_self
    have := depthAll_le ds fun x m => h x (List.mem_cons_of_mem _ m)
    omega
theorem minOk_all {ds : List PyData} (h : minOk ds = true) : AlikeAll ds ∧ PyData.depthAll ds ≤ 60 := by
  unfold minOk at h
  simp only [Bool.and_eq_true, List.all_eq_true, decide_eq_true_eq] at h
  obtain ⟨⟨h1, h2⟩, h3⟩ := h
  refine ⟨⟨h1, fun x m e => ?_⟩, depthAll_le ds h3⟩
  have := h2 x m
  rw [e] at this
  cases this
def rMinL (K : PySem.W.Frag) : List V → Hp → VK → Prop := fun vs H Q => ∃ (a : Addr) (xs : List V) (d : PyData) (ds : List PyData), vs = [.ref a] ∧ SqL K H a xs ∧ DpAll K H xs (d :: ds) ∧ minOk (d :: ds) = true ∧
  ∀ (i : Nat) v, xs[i]? = some v → (d :: ds)[i]? = some (minD d ds) → Q v H
theorem cr_minL (hc : X.calm = true) (hu : X.A.units + 64 < cLine) : CallR X (.builtin "min") (rMinL X.K) := by
  intro pins s σ H vs us Q I r h
  obtain ⟨a, xs, d, ds, rfl, hs, hd, ok, q⟩ := h
  rw [Vals.ref1 r]
  obtain ⟨al, dp⟩ := minOk_all ok
  obtain ⟨its, rv, pl, hz⟩ := I.list hs
  obtain ⟨as, rd⟩ := Dp.readsAll I (d :: ds) xs its hd rv
  refine PySem.W.min_list_data (vs := its.toArray) (I.ok.hd hc) pl.isList (by simpa using rd) al (by omega) fun i u h' tk bs hi hr hk => ?_
  obtain ⟨bs', r2, hlt, hmem, _⟩ := PySem.W.readsAll_atA (vs := its.toArray) (by simpa using rd) i u hi
  have hmin := minD_mem ds d
  have e : (d :: ds).getD i .none = minD d ds := PySem.W.alike_unique _ _ u bs' bs (al.1 _ hmem _ hmin) (PySem.W.reads_keeps hk r2) hr
  have hi' : its[i]? = some u := by simpa using hi
  obtain ⟨v, hv, rel⟩ := L2.DX.pget rv hi'
  exact ⟨v, H, I.kept (t' := tk) hk, rel, q i v hv (by rw [List.getD_eq_getElem?_getD, List.getElem?_eq_getElem hlt] at e; rw [List.getElem?_eq_getElem hlt]; exact congrArg some e)⟩
def minF : List W → Option W
  | [.dat (.list (d :: ds))] => if minOk (d :: ds) = true then some (.dat (minD d ds)) else none
  | _ => none
theorem cd_minL : CallD X (rMinL X.K) minF := fun T M H ws w vs Q e tr mt r k => by
  unfold minF at e
  split at e
  · next d ds =>
    split at e
    · next ok =>
      cases e
      cases r with
      | cons r1 r2 =>
        cases r2
        obtain ⟨a, xs, rfl, ea, _, q⟩ := r1
        refine ⟨a, xs, d, ds, rfl, SqL.of ea, RpAll.dp _ _ q, ok, fun i v hv hm => ?_⟩
        obtain ⟨v', ev', rv'⟩ := q.get hm
        rw [hv] at ev'
        cases ev'
        exact k _ H (Gr.refl H) rv'
    · cases e
  · cases e
theorem dc_minL {h : AF} (hc : X.calm = true) (hu : X.A.units + 64 < cLine) (hg : Gl X "min") (hm : X.mg "min" = none) (ha : DAB X [a] h) (hs : starEach [a] X.env = [(false, eval a X.env)] := by rfl) : DE X (.Call (.Name "min" p) [a] [] pos) (callF minF h) :=
  de_callB (cr_minL hc hu) cd_minL hg hm bb_min ha (by decide) (by decide) hs rfl
end
end ND

set_option Elab.async false
set_option linter.all false
set_option maxRecDepth 100000
set_option maxHeartbeats 4000000
/-! ND26: dict comprehensions. -/
namespace ND
open PySem PySem.Spec L2
open PyProof.Rows hiding St
/-- the state within: D is the dict that is filled -/
structure Dcs (C : Cf) (M0 : MS) (H0 : Hp) (D : Addr) (M : MS) (ρ : EnvD) (τ : Tape) (σ : St) (H : Hp) (acc : List (PyData × PyData)) : Prop where
  it : ∃ ep xs, H D = some (dctO C.P C.w D ep xs) ∧ (xs.map (·.1)).Nodup ∧ EntAll M H xs acc ∧ SI C (fun b => M0 b ∨ b = D) (upd H0 D (dctO C.P C.w D ep xs)) M ρ τ σ H
section
variable {C : Cf} {M0 : MS} {H0 : Hp} {D : Addr} {M : MS} {ρ : EnvD} {τ : Tape} {σ : St} {H : Hp} {acc acc' : List (PyData × PyData)}
theorem Dcs.md (l : Dcs C M0 H0 D M ρ τ σ H acc) : M D := let ⟨_, _, _, _, _, S⟩ := l.it; S.m0 D (.inr rfl)
theorem Dcs.mt (l : Dcs C M0 H0 D M ρ τ σ H acc) : M C.T := let ⟨_, _, _, _, _, S⟩ := l.it; S.mt
theorem Dcs.push (n0 : H0 D = none) (t0 : M0 C.T) (trk0 : ∀ b, M0 b → H0 b ≠ none) (l : Dcs C M0 H0 D M ρ τ σ H acc) {ep : Nat} {xs : List (NestedKey × Addr × Value)} (ent : EntAll M H xs acc') (nd : (xs.map (·.1)).Nodup) :
    Dcs C M0 H0 D M ρ τ σ (upd H D (dctO C.P C.w D ep xs)) acc' ∧ ExD C.T D M H M (upd H D (dctO C.P C.w D ep xs)) := by
  obtain ⟨ep0, xs0, e, _, q, S⟩ := l.it
  obtain ⟨S1, no⟩ := S.unpin n0 t0 trk0
  have m : M D := S.m0 D (.inr rfl)
  have nT : D ≠ C.T := fun z => trk0 _ t0 (by rw [← z]; exact n0)
  obtain ⟨S2, L⟩ := S1.poke (o := dctO C.P C.w D ep xs) m nT n0 no
  exact ⟨⟨ep, xs, upd_same, nd, ent.later L, S2.pin m upd_same no⟩, fun b o eb _ nD => by rw [upd_ne nD]; exact eb, fun _ m => m⟩
end
def dcL (g : GF) (t : BF) (fk fv : EF) (vs : List Nat) : List PyData → List (PyData × PyData) → EnvD → Tape → Option (List (PyData × PyData) × EnvD × Tape)
  | [], acc, ρ, τ => some (acc, ρ, τ)
  | d :: ds, acc, ρ, τ => (g d ρ).bind fun ρ1 => (t ρ1 τ).bind fun r => if r.1 = true then (fk r.2.1 r.2.2).bind fun q => (fv q.2.1 q.2.2).bind fun p => match q.1, p.1 with
        | .dat kd, .dat vd => if (keyOf kd).isSome = true ∧ acc.length < 16777216 then dcL g t fk fv vs ds (putD acc kd vd) (wipeD p.2.1 vs) p.2.2 else none
        | _, _ => none
      else dcL g t fk fv vs ds acc (wipeD r.2.1 vs) r.2.2
theorem dcL_len {g : GF} {t : BF} {fk fv : EF} {vs : List Nat} : ∀ (ds : List PyData) (acc : List (PyData × PyData)) (ρ : EnvD) (τ : Tape) {r : List (PyData × PyData) × EnvD × Tape}, dcL g t fk fv vs ds acc ρ τ = some r → acc.length ≤ 16777216 → r.1.length ≤ 16777216
  | [], acc, ρ, τ, r, e, h => by cases e; exact h
  | d :: ds, acc, ρ, τ, r, e, h => by
    unfold dcL at e
    cases e1 : g d ρ with
    | none => rw [e1] at e; cases e
    | some ρ1 =>
      rw [e1] at e
      simp only [Option.bind_some] at e
      cases e2 : t ρ1 τ with
      | none => rw [e2] at e; cases e
      | some r2 =>
        obtain ⟨b, ρ2, τ2⟩ := r2
        rw [e2] at e
        simp only [Option.bind_some] at e
        cases b with
        | false => rw [if_neg Bool.false_ne_true] at e; exact dcL_len ds acc _ _ e h
        | true =>
          rw [if_pos rfl] at e
          cases e3 : fk ρ2 τ2 with
          | none => rw [e3] at e; cases e
          | some q =>
            obtain ⟨w1, ρ3, τ3⟩ := q
            rw [e3] at e
            simp only [Option.bind_some] at e
            cases e4 : fv ρ3 τ3 with
            | none => rw [e4] at e; cases e
            | some p =>
              obtain ⟨w2, ρ4, τ4⟩ := p
              rw [e4] at e
              simp only [Option.bind_some] at e
              cases w1 with
              | tape => cases e
              | dct _ => cases e
              | dat kd =>
                cases w2 with
                | tape => cases e
                | dct _ => cases e
                | dat vd =>
                  simp only at e
                  split at e
                  · next hk =>
                    have := putD_length acc kd vd
                    exact dcL_len ds _ _ _ e (by omega)
                  · cases e
/-- the comprehension, by the rules of the walk -/
def tDcN (X : Cx) (wi : TI) (g : TG) (tt : TT) (tk tv : TE) (vs : List Nat) : TE := fun σ H Q => wi σ H fun J H1 => ∀ D ep, H1 D = none → (D == sysModules) = false → ∃ W : Nat → Nat → Hp → Prop, (∃ m, W 0 m (upd H1 D (dctO X.prog X.w D ep []))) ∧ ∀ i m H, W i m H →
  (J.stop i H ∧ Q (.ref D) H) ∨ (J.go i H ∧ ∃ Nx : Hp → Prop, (∀ H', Nx H' → ∃ m', m' < m ∧ W (i + 1) m' H') ∧ ∀ x H', J.yld i H x H' → g x (wipe σ vs) H' fun σ2 H2 => wipe σ2 vs = wipe σ vs ∧ tt σ2 H2 fun b H3 =>
    if b = true then tk σ2 H3 fun y H4 => tv σ2 H4 fun z H5 => ∃ T M kvs kd k vd, DctAt (cf X T) M H5 D kvs ∧ kvs.length < sizeLine ∧ Rp M H5 y kd ∧ keyOf kd = some k ∧ Rp M H5 z vd ∧ ∀ ep' xs, EntAll M H5 xs (putD kvs kd vd) → (xs.map (·.1)).Nodup → Nx (upd H5 D (dctO X.prog X.w D ep' xs)) else Nx H3)
section
variable {X : Cx} {T : Addr} {M0 : MS} {H0 : Hp} {D : Addr} {σ : St} {vs is : List Nat} {g : GF} {t : BF} {fk fv : EF} {bb : Bool}
theorem dc_loop {J : It} {items : List PyData} {Ms : MS} {ρs ρf : EnvD} {τs τf : Tape} {Hs : Hp} {acc0 outs : List (PyData × PyData)} {E : Hp → Prop} (n0 : H0 D = none) (hsm : (D == sysModules) = false) (t0 : M0 T) (trk0 : ∀ b, M0 b → H0 b ≠ none) (his : ∀ j ∈ is, j ∈ vs)
    (it : ItD bb J Ms Hs items) (l0 : Dcs (cf X T) M0 H0 D Ms ρs τs (wipe σ vs) Hs acc0) (ef : dcL g t fk fv vs items acc0 ρs τs = some (outs, ρf, τf))
    (fin : ∀ M' H', Dcs (cf X T) M0 H0 D M' ρf τf (wipe σ vs) H' outs → ExD T D Ms Hs M' H' → E H') :
    ∃ W : Nat → Nat → Hp → Prop, (∃ m, W 0 m Hs) ∧ ∀ i m H, W i m H → (J.stop i H ∧ E H) ∨ (J.go i H ∧ ∃ Nx : Hp → Prop, (∀ H', Nx H' → ∃ m', m' < m ∧ W (i + 1) m' H') ∧ ∀ x H', J.yld i H x H' →
      tDG X bb is g x (wipe σ vs) H' fun σ2 H2 => wipe σ2 vs = wipe σ vs ∧ tDT X t σ2 H2 fun b H3 =>
        if b = true then tD X fk σ2 H3 fun y H4 => tD X fv σ2 H4 fun z H5 => ∃ T M kvs kd k vd, DctAt (cf X T) M H5 D kvs ∧ kvs.length < sizeLine ∧ Rp M H5 y kd ∧ keyOf kd = some k ∧ Rp M H5 z vd ∧ ∀ ep' xs, EntAll M H5 xs (putD kvs kd vd) → (xs.map (·.1)).Nodup → Nx (upd H5 D (dctO X.prog X.w D ep' xs)) else Nx H3) := by
  refine ⟨fun i m H => m = items.length - i ∧ i ≤ items.length ∧ ∃ M ρ τ acc, Dcs (cf X T) M0 H0 D M ρ τ (wipe σ vs) H acc ∧ ExD T D Ms Hs M H ∧ dcL g t fk fv vs (items.drop i) acc ρ τ = some (outs, ρf, τf),
    ⟨items.length, by simp, Nat.zero_le _, Ms, ρs, τs, acc0, l0, ExD.refl .., by rw [List.drop_zero]; exact ef⟩, ?_⟩
  have nDT : D ≠ T := fun z => trk0 _ t0 (by rw [← z]; exact n0)
  rintro i m H ⟨rfl, hi, M, ρ, τ, acc, l, x0, e2⟩
  have LL := x0.later l0.mt l0.md
  by_cases hlt : i < items.length
  · rw [List.drop_eq_getElem_cons hlt] at e2
    obtain ⟨ep, xs, eD, nd, q, S⟩ := l.it
    obtain ⟨go, yl⟩ := it.go M H LL S.trk i items[i] (List.getElem?_eq_getElem hlt)
    refine .inr ⟨go, fun H' => i + 1 ≤ items.length ∧ ∃ M ρ τ acc, Dcs (cf X T) M0 H0 D M ρ τ (wipe σ vs) H' acc ∧ ExD T D Ms Hs M H' ∧ dcL g t fk fv vs (items.drop (i + 1)) acc ρ τ = some (outs, ρf, τf),
      fun H' q => ⟨items.length - (i + 1), by omega, rfl, q⟩, fun x H3 y => ?_⟩
    obtain ⟨gr, rx⟩ := yl x H3 y
    unfold dcL at e2
    cases e3 : g items[i] ρ with
    | none => rw [e3] at e2; cases e2
    | some ρ3 =>
      rw [e3] at e2
      simp only [Option.bind_some] at e2
      refine ⟨T, _, _, M, ρ, τ, items[i], ρ3, S.grow gr, rx, e3, fun σ2 S2 ft => ?_⟩
      have hw : wipe σ2 vs = wipe σ vs := wipe_foot (ft.mono his)
      refine ⟨hw, ?_⟩
      cases e4 : t ρ3 τ with
      | none => rw [e4] at e2; cases e2
      | some r4 =>
        obtain ⟨b, ρ4, τ4⟩ := r4
        rw [e4] at e2
        simp only [Option.bind_some] at e2
        refine ⟨T, _, _, M, ρ3, τ, b, ρ4, τ4, S2, e4, fun M4 H4 S4 x4 => ?_⟩
        have D4 : H4 D = some (dctO X.prog X.w D ep xs) := S4.fr D _ upd_same nDT
        have q4 : EntAll M4 H4 xs acc := q.later (gr.later.trans (x4.later S.mt))
        have xx4 : ExD T D Ms Hs M4 H4 := (x0.trans (gr.ex (T := T)).d).trans x4.d
        cases b with
        | false =>
          rw [if_neg Bool.false_ne_true] at e2
          refine iteF ⟨hlt, M4, _, τ4, acc, ?_, xx4, e2⟩
          rw [← hw]
          exact ⟨ep, xs, D4, nd, q4, S4.wipe vs⟩
        | true =>
          rw [if_pos rfl] at e2
          cases e5 : fk ρ4 τ4 with
          | none => rw [e5] at e2; cases e2
          | some r5 =>
            obtain ⟨w5, ρ5, τ5⟩ := r5
            rw [e5] at e2
            simp only [Option.bind_some] at e2
            cases e6 : fv ρ5 τ5 with
            | none => rw [e6] at e2; cases e2
            | some r6 =>
              obtain ⟨w6, ρ6, τ6⟩ := r6
              rw [e6] at e2
              simp only [Option.bind_some] at e2
              refine iteT ⟨T, _, _, M4, ρ4, τ4, w5, ρ5, τ5, S4, e5, fun v M5 H5 S5 x5 r5 => ?_⟩
              refine ⟨T, _, _, M5, ρ5, τ5, w6, ρ6, τ6, S5, e6, fun v2 M6 H6 S6 x6 r6 => ?_⟩
              cases w5 with
              | tape => cases e2
              | dct _ => cases e2
              | dat kd =>
                cases w6 with
                | tape => cases e2
                | dct _ => cases e2
                | dat vd =>
                  simp only at e2
                  split at e2
                  · next hk =>
                    obtain ⟨kk, ek⟩ := Option.isSome_iff_exists.mp hk.1
                    have D6 : H6 D = some (dctO X.prog X.w D ep xs) := S6.fr D _ upd_same nDT
                    have q6 : EntAll M6 H6 xs acc := q4.later ((x5.trans x6).later S4.mt)
                    have l6 : Dcs (cf X T) M0 H0 D M6 (wipeD ρ6 vs) τ6 (wipe σ vs) H6 acc := ⟨ep, xs, D6, nd, q6, by rw [← hw]; exact S6.wipe vs⟩
                    refine ⟨T, M6, acc, kd, kk, vd, ⟨hsm, by rw [sizeLine_eq]; omega, ep, xs, D6, nd, q6⟩, by rw [sizeLine_eq]; omega, Rp.later (x6.later S5.mt) _ _ r5, ek, r6, fun ep' xs' ent nd' => ?_⟩
                    obtain ⟨l7, x7⟩ := l6.push (ep := ep') n0 t0 trk0 ent nd'
                    exact ⟨hlt, M6, _, τ6, _, l7, ((xx4.trans x5.d).trans x6.d).trans x7, e2⟩
                  · cases e2
  · have ei : i = items.length := by omega
    subst ei
    rw [List.drop_length] at e2
    cases e2
    exact .inl ⟨it.stop M H LL, fin M H l x0⟩
theorem dc_later {M1 : MS} {H1 : Hp} {D : Addr} {o : HO} (nD : H1 D = none) : Later M1 H1 (fun b => M1 b ∨ b = D) (upd H1 D o) := ⟨fun b o e _ => Gr.upd nD b o e, fun b m => m.imp id fun z => by rw [z]; exact nD⟩
def dcK (h : FF) (g : GF) (t : BF) (fk fv : EF) (vs : List Nat) : KF := fun ρ τ => (h ρ τ).bind fun r => (dcL g t fk fv vs r.1 [] (wipeD r.2.1 vs) r.2.2).map fun q => (q.1, mergeD r.2.1 q.2.1 vs, q.2.2)
theorem dc_td {h : FF} (his : ∀ j ∈ is, j ∈ vs) {H : Hp} {Q : VK} (hh : tDK X (dcK h g t fk fv vs) σ H Q) : tDcN X (tDI X bb h) (tDG X bb is g) (tDT X t) (tD X fk) (tD X fv) vs σ H Q := by
  obtain ⟨T, M0, H0, M, ρ, τ, ds, ρ', τ', S, ef, k⟩ := hh
  unfold dcK at ef
  cases e1 : h ρ τ with
  | none => rw [e1] at ef; cases ef
  | some r1 =>
    obtain ⟨items, ρ1, τ1⟩ := r1
    rw [e1] at ef
    simp only [Option.bind_some] at ef
    cases e2 : dcL g t fk fv vs items [] (wipeD ρ1 vs) τ1 with
    | none => rw [e2] at ef; cases ef
    | some r2 =>
      obtain ⟨outs, ρf, τf⟩ := r2
      rw [e2] at ef
      cases ef
      refine ⟨T, M0, H0, M, ρ, τ, items, ρ1, τ1, S, e1, fun J M1 H1 S1 x1 it => fun D ep nD hsm => ?_⟩
      have n0 : H0 D = none := S1.fresh0 nD
      have l0 : Dcs (cf X T) M0 H0 D (fun b => M1 b ∨ b = D) (wipeD ρ1 vs) τ1 (wipe σ vs) (upd H1 D (dctO X.prog X.w D ep [])) [] := by
        have S2 := (S1.lock (o := dctO X.prog X.w D ep []) nD).wipe vs
        refine ⟨ep, [], upd_same, List.nodup_nil, .nil, S2.pin (.inr rfl) upd_same fun i s e o => ?_⟩
        obtain ⟨h1, h2⟩ := wipeD_some e
        rw [wipe_out h2]
        exact S1.own_tracked nD i s h1 o
      refine dc_loop (M0 := M0) (H0 := H0) n0 hsm S1.t0 S1.trk0 his (it.later (dc_later nD)) l0 e2 fun M' H' l x => ?_
      obtain ⟨ep', xs, eD, nd, q, S'⟩ := l.it
      obtain ⟨S2, no⟩ := S'.unpin n0 S1.t0 S1.trk0
      have L : Later M1 H1 M' H' := (dc_later nD).trans (x.later (.inl S1.mt) (.inr rfl))
      refine k D M' H' ⟨S1.merge S2 L, fun b o e nT => ?_, fun b m => ?_, ?_, S'.m0 D (.inr rfl), fun i s e o => ?_, hsm, by rw [sizeLine_eq]; exact dcL_len _ _ _ _ e2 (Nat.zero_le _), ep', xs, eD, nd, q⟩
      · have e1 := x1.keep b o e nT
        have nb : b ≠ D := fun z => by rw [z, nD] at e1; cases e1
        exact x.keep b o (by rw [upd_ne nb]; exact e1) nT nb
      · exact (x.sub b m).imp (x1.sub b) id
      · cases e : H D with
        | none => rfl
        | some o =>
          have nT : D ≠ T := fun z => S1.trk0 _ S1.t0 (by rw [← z]; exact n0)
          rw [x1.keep D o e nT] at nD; cases nD
      · rcases mergeD_some e with ⟨w, rfl, _⟩ | ⟨h1, h2⟩
        · cases o
        · have := no i s h2 o
          rw [wipe_out h1] at this
          exact this
end
end ND

set_option Elab.async false
set_option linter.all false
set_option maxRecDepth 100000
set_option maxHeartbeats 4000000
/-! ND27: dict comprehensions, the walk; y = {..}. -/
namespace ND
open PySem PySem.Spec L2
open PyProof.Rows hiding St
section
variable {X : Cx}
theorem n_dictSet {pins : List (Addr × Obj)} {σ : St} {H : Hp} {s : Shared} {E : Value → Shared → Prop} {D T : Addr} {M : MS} {kvs : List (PyData × PyData)} {kd vd : PyData} {k : NestedKey} {y z : V} {u r : Value} {Q : Unit → Shared → Prop} (hu : X.A.units + 9 < cLine) (I : Inv X pins σ H s)
    (hd : DctAt (cf X T) M H D kvs) (hy : Rp M H y kd) (ry : RelV y u) (ek : keyOf kd = some k) (hv : Rp M H z vd) (rv : RelV z r)
    (q : ∀ s' ep' xs, EntAll M H xs (putD kvs kd vd) → (xs.map (·.1)).Nodup → Inv X pins σ (upd H D (dctO X.prog X.w D ep' xs)) s' → Q () s') : wpAny (model X.prog X.w) X.A (dictSet D u r) Q E s := by
  obtain ⟨h1, h2, xs, ⟨ep, e⟩, dd, ent⟩ := hd.dict I
  obtain ⟨b, rfl, rfl, his⟩ := rp_key I hy ry ek
  obtain ⟨e1, e2, _⟩ := keyOf_some ek
  refine wpAny_dictSet_heap (knd := nestedKind X.prog X.w) (hsz := by rw [ent.length]; exact h2) (by show X.A.units + 8 < cLine; omega) his dd fun h' dd' hs => ?_
  have he : ∃ q, h'.get? D = some q := let ⟨q, _, _, hq, _⟩ := dd'; ⟨q, hq⟩
  obtain ⟨ep', ok'⟩ := dctO_ok dd'
  exact q _ ep' _ (ent.put e1 e2 hy rv hv) (by obtain ⟨_, _, _, _, _, _, _, _, nd⟩ := dd'; exact nd) (d_write I (by rw [e]; exact True.intro) hs he (ok' _))
end
/-! A comprehension's block, told apart from what the comprehension builds: it is entered, stood in between two turns, and left. -/
section
variable {X : Cx} {pins : List (Addr × Obj)} {scope : Scope} {fp : List Addr} {tn : Nat → Heap → Prop} {tg : Expr} {J : It} {it : Addr}
/-- between two turns: the block stands in its frame ce, begun at s0 with H0; the iterator is ahead of turn i, and its objects fp are no one's -/
structure Amid (X : Cx) (s0 : Shared) (H0 : Hp) (scope : Scope) (ce : Env) (fp : List Addr) (tn : Nat → Heap → Prop) (i : Nat) (σ : St) (H : Hp) (s : Shared) : Prop where
  inv : Inv (X.blk s0 H0 scope ce fp) [] σ H s
  turn : tn i s.heap
  off : ∀ b ∈ fp, H b = none
variable {s0 s : Shared} {H0 H : Hp} {ce : Env} {σ σ0 : St} {i : Nat}
theorem Amid.fps (m : Amid X s0 H0 scope ce fp tn i σ H s) : ∀ b ∈ fp, FpOk (X.blk s0 H0 scope ce fp) [] H b := fun b hb => by
  obtain ⟨nl, nc⟩ := m.inv.ok.exf b hb
  exact ⟨m.off b hb, nl, m.inv.ok.exfs b hb, Or.inl hb, nc, fun p hp => nomatch (show p ∈ ([] : List (Addr × Obj)) from hp)⟩
/-- a new object does not touch the iterator's -/
theorem fps_new (T : Turn X.prog X.w X.K tg J fp it tn) (st : tn i s.heap) (f : ∀ b ∈ fp, FpOk X pins H b) (o : HO) : ∀ b ∈ fp, FpOk X pins (upd H s.heap.objs.size o) b := fun b hb => by
  obtain ⟨_, e, _⟩ := T.obj i _ st b hb
  exact ⟨(upd_ne (Nat.ne_of_lt (Heap.lt_size e))).trans (f b hb).1, (f b hb).2⟩
theorem Amid.enter {own : List (Str × Nat)} (I : Inv X pins σ H s) (ok : BlkOk X.N X.env.scope scope own) (nd : X.N.Nodup) (T : Turn X.prog X.w X.K tg J fp it tn) (st : tn 0 s.heap) (f : ∀ b ∈ fp, FpOk X pins H b) :
    Amid X s H scope (compEnvC scope (cellsFrom (s.heap.objs.size + 1) scope.names (cloFrom X.env.cells scope.names [])) s.heap.objs.size X.env) fp tn 0 (wipe σ (own.map (·.2))) H
      { s with heap := pushCells (s.heap.push { cls := .type "dict", data := .dict #[] }) scope.names } where
  inv := block_start I ok nd fun b hb => let ⟨_, e, _⟩ := T.obj 0 _ st b hb; ⟨f b hb, Heap.lt_size e⟩
  turn := T.keep 0 _ _ st fun _ _ _ e => pushCells_keeps _ _ _ _ (Heap.get?_push_of_some _ e)
  off := fun b hb => (f b hb).1
/-- a turn is over: what was bound in it is forgotten again -/
theorem Amid.back {vs : List Nat} {s1 : Shared} {σ1 : St} (T : Turn X.prog X.w X.K tg J fp it tn) (st : tn i s1.heap) (I : Inv (X.blk s0 H0 scope ce fp) ([] ++ pinsAt fp s1.heap) σ1 H s) (w : wipe σ1 vs = wipe σ0 vs) :
    Amid X s0 H0 scope ce fp tn i (wipe σ0 vs) H s := by
  have pin : ∀ b ∈ fp, ∀ o, s1.heap.get? b = some o → s.heap.get? b = some o ∧ H b = none := fun b hb o e => by
    obtain ⟨p1, p2, _⟩ := I.pin (b, o) (by simp only [List.nil_append]; exact mem_pinsAt hb e)
    exact ⟨p1, p2⟩
  refine ⟨(I.unpinned (pins := [])).weak (by rw [← w, wipe_length]) fun j v e => (wipe_some (w ▸ e)).1, T.keep i _ _ st fun b hb o e => (pin b hb o e).1, fun b hb => ?_⟩
  obtain ⟨o, e, _⟩ := T.obj i _ st b hb
  exact (pin b hb o e).2
/-- the def goes on where it stood; the block's frame is no one's -/
theorem Amid.leave {σ1 : St} (I0 : Inv X pins σ0 H0 s0) (f : ∀ b ∈ fp, FpOk X pins H0 b) (hce : ce.locals = s0.heap.objs.size) (I : Inv (X.blk s0 H0 scope ce fp) [] σ1 H s) :
    Inv X pins σ0 H s ∧ ∃ m, s.heap.Ns s0.heap.objs.size m ∧ FpOk X pins H s0.heap.objs.size := by
  obtain ⟨m, ns, _⟩ := I.loc
  have free := I.free
  rw [show (X.blk s0 H0 scope ce fp).env.locals = s0.heap.objs.size from hce] at ns free
  refine ⟨I0.call' (ch := fp) I.os I.base I.hok I.bare fun b hb => ?_, m, ns, I0.fpOk (Nat.le_refl _) free⟩
  obtain ⟨_, nl, _, young, nc, np⟩ := f b hb
  exact ⟨young, nl, nc, np⟩
end
section
variable {X : Cx} {kx vx tg iter : Expr} {ifs : List Expr} {scope : Scope} {own : List (Str × Nat)} {pos : Pos} {wi : TI} {g : TG} {tt : TT} {tk tv : TE}
/-- in whatever block of the scope -/
abbrev InBlk (X : Cx) (scope : Scope) (P : Cx → Prop) : Prop := ∀ (s : Shared) (H : Hp) (C : Addr) (cl : List (Str × Addr)) (fp : List Addr), P (X.blk s H scope (compEnvC scope cl C X.env) fp)
/-- the turns, from one of them on -/
theorem dcn_turns {pins : List (Addr × Obj)} {s0 : Shared} {H0 : Hp} {σ : St} {vs : List Nat} {fp : List Addr} {tn : Nat → Heap → Prop} {J : It} {it D : Addr} {ce : Env} {Q : VK} {use : Option (Value → Sem Unit)} {Qf : Value → Shared → Prop} {W : Nat → Nat → Hp → Prop}
    (hu : X.A.units + 9 < cLine) (hc : X.calm = true) (I0 : Inv X pins σ H0 s0) (f : ∀ b ∈ fp, FpOk X pins H0 b) (hce : ce.locals = s0.heap.objs.size) (T : Turn X.prog X.w X.K tg J fp it tn)
    (pg : PG (X.blk s0 H0 scope ce fp) tg g) (pt : PTs (X.blk s0 H0 scope ce fp) ifs tt) (pk : PE (X.blk s0 H0 scope ce fp) kx tk) (pv : PE (X.blk s0 H0 scope ce fp) vx tv)
    (turn : ∀ i m H, W i m H → (J.stop i H ∧ Q (.ref D) H) ∨ (J.go i H ∧ ∃ Nx : Hp → Prop, (∀ H', Nx H' → ∃ m', m' < m ∧ W (i + 1) m' H') ∧ ∀ x H', J.yld i H x H' → g x (wipe σ vs) H' fun σ2 H2 => wipe σ2 vs = wipe σ vs ∧ tt σ2 H2 fun b H3 =>
      if b = true then tk σ2 H3 fun y H4 => tv σ2 H4 fun z H5 => ∃ T M kvs kd k vd, DctAt (cf X T) M H5 D kvs ∧ kvs.length < sizeLine ∧ Rp M H5 y kd ∧ keyOf kd = some k ∧ Rp M H5 z vd ∧
        ∀ ep xs, EntAll M H5 xs (putD kvs kd vd) → (xs.map (·.1)).Nodup → Nx (upd H5 D (dctO X.prog X.w D ep xs)) else Nx H3))
    (out : ∀ s m H, Inv X pins σ H s → Q (.ref D) H → s.heap.Ns s0.heap.objs.size m → FpOk X pins H s0.heap.objs.size → compPost (model X.prog X.w) X.A X.xe use Qf (.ref D) s0.heap.objs.size (.ok .next) s)
    {m : Nat} {H : Hp} {s : Shared} (am : Amid X s0 H0 scope ce fp tn 0 (wipe σ vs) H s) (w : W 0 m H) :
    codeAny (model X.prog X.w) X.A (.compLoop (.DictComp kx vx [⟨tg, iter, ifs, 0⟩] scope pos) 0 (.ref it) (.ref D) ce) (compPost (model X.prog X.w) X.A X.xe use Qf (.ref D) s0.heap.objs.size) s := by
  refine compLoop_anyD (fun m s => ∃ i H, Amid X s0 H0 scope ce fp tn i (wipe σ vs) H s ∧ W i m H) (fun m s => ?_) m ⟨0, H, am, w⟩
  rintro ⟨i, H, am, w⟩
  rcases turn i m H w with ⟨stop, q⟩ | ⟨go, Nx, less, step⟩
  · refine thnF (T.done (X.blk s0 H0 scope ce fp) rfl rfl rfl hc i [] s _ H (fun _ _ => False) am.inv am.fps am.turn stop) fun r s1 e => ?_
    obtain ⟨rfl, I1⟩ := e
    obtain ⟨I, m', ns, fr⟩ := Amid.leave I0 f hce I1
    exact out s1 m' H I q ns fr
  · refine thnF (T.item (X.blk s0 H0 scope ce fp) rfl rfl rfl hc i [] s _ H (fun _ _ => False) am.inv am.fps am.turn go) fun r s1 e => ?_
    obtain ⟨u, rfl, e⟩ := e
    refine thnF e fun _ s1 e => ?_
    obtain ⟨x, H1, I1, ru, yld, st1, off1⟩ := e
    -- the turn's own binding, tests, key and value leave the iterator as it is now
    have J1 := I1.pinned (Amid.fps ⟨I1, st1, off1⟩) (T.obj _ _ st1)
    have ends : ∀ {s2 : Shared} {σ2 : St} {H2 : Hp}, wipe σ2 vs = wipe σ vs → Inv (X.blk s0 H0 scope ce fp) ([] ++ pinsAt fp s1.heap) σ2 H2 s2 → Nx H2 → ∃ m', m' < m ∧ ∃ i H, Amid X s0 H0 scope ce fp tn i (wipe σ vs) H s2 ∧ W i m' H := fun eq I2 nx => by
      obtain ⟨m', lt, w'⟩ := less _ nx
      exact ⟨m', lt, i + 1, _, Amid.back T st1 I2 eq, w'⟩
    refine thnF (pg.run _ s1 _ H1 x u _ J1 ru (step x H1 yld)) fun _ s2 e => ?_
    obtain ⟨σ2, H2, J2, eq, e2⟩ := e
    refine thnF (pt.run _ s2 σ2 H2 _ J2 e2) fun b s3 e => ?_
    obtain ⟨H3, J3, e3⟩ := e
    cases b with
    | false => exact ends eq J3 e3
    | true =>
      refine thnF (pk.run _ s3 σ2 H3 _ J3 e3) fun kv s4 e => ?_
      obtain ⟨y, H4, J4, rk, e4⟩ := e
      refine thnF (pv.run _ s4 σ2 H4 _ J4 e4) fun vv s5 e => ?_
      obtain ⟨z, H5, J5, rv, T5, M5, kvs, kd, k, vd, dct, few, hy, ek, hz, nx⟩ := e
      exact n_dictSet (X := X.blk s0 H0 scope ce fp) hu J5 dct hy rk ek hz rv fun s6 ep xs ent nd J6 => ends eq J6 (nx ep xs ent nd)
/-- the whole comprehension -/
theorem dcn_core {pins : List (Addr × Obj)} {s : Shared} {σ : St} {H : Hp} {Q : VK} {pos' : Pos} {use : Option (Value → Sem Unit)} {Qf : Value → Shared → Prop} (hu : X.A.units + 9 < cLine) (hc : X.calm = true) (hN : X.N.Nodup) (I : Inv X pins σ H s) (hi : PI X tg iter wi) (ok : BlkOk X.N X.env.scope scope own)
    (hg : InBlk X scope fun Y => PG Y tg g) (ht : InBlk X scope fun Y => PTs Y ifs tt) (hk : InBlk X scope fun Y => PE Y kx tk) (he : InBlk X scope fun Y => PE Y vx tv) (hs : ∀ x, foldedSetIterable iter X.env x = pure x) (h : tDcN X wi g tt tk tv (own.map (·.2)) σ H Q)
    (out : ∀ D C s' m H', Inv X pins σ H' s' → Q (.ref D) H' → s'.heap.Ns C m → FpOk X pins H' C → compPost (model X.prog X.w) X.A X.xe use Qf (.ref D) C (.ok .next) s') :
    wpAny (model X.prog X.w) X.A (comprehension (.DictComp kx vx [⟨tg, iter, ifs, 0⟩] scope pos) scope X.env pos' newDict false (eval iter X.env) use) Qf X.xe s := by
  have cells : ∀ y ∈ scope.names, y.2 = .free → ∃ c, X.env.cells.lookup y.1 = some c := fun y m e => (ok.free y m e).elim (fun z => I.ok.has _ (.inl z)) fun z => I.ok.has _ (.inr z)
  refine wpAny_comprehension_free (use := use) rfl hs (closure_ok cells) ok.kind (fun y m e => (ok.uniq y m).trans (by rw [e])) (thn (hi.run pins s σ H _ I h) fun _ _ q => thn q fun _ s1 e => ?_)
  obtain ⟨it, fp, tn, J, H1, rfl, I1, T, st1, f1, q⟩ := e
  refine wpAny_newObj_type (newEnv_comp ?_)
  -- the new dict at D
  obtain ⟨ep, dct⟩ := dctO_ok (X := X) (Heap.DictOfH.new s1.heap)
  obtain ⟨W, ⟨m, w⟩, turn⟩ := q _ ep (I1.hok.fresh (Nat.le_refl _)) (beq_eq_false_iff_ne.mpr (Nat.ne_of_gt I1.big))
  have I2 := I1.laid (t' := s1.toks) (fun b o e => Heap.get?_push_of_some { cls := .type "dict", data := .dict #[] } e) (Nat.le_refl _) (dct _)
  have f2 := fps_new T st1 f1 (dctO X.prog X.w s1.heap.objs.size ep [])
  have st2 : tn 0 (s1.heap.push { cls := .type "dict", data := .dict #[] }) := T.keep 0 _ _ st1 fun _ _ _ e => Heap.get?_push_of_some _ e
  generalize s1.heap.objs.size = D at I2 f2 w turn ⊢
  generalize upd H1 D (dctO X.prog X.w D ep []) = H2 at I2 f2 w
  generalize s1.heap.push { cls := .type "dict", data := .dict #[] } = h2 at I2 st2 ⊢
  exact codeAny_compStart_dict (dcn_turns (s0 := { s1 with heap := h2 }) hu hc I2 f2 rfl T (hg _ _ _ _ _) (ht _ _ _ _ _) (hk _ _ _ _ _) (he _ _ _ _ _) turn (fun s m H => out D _ s m H) (Amid.enter I2 ok hN T st2 f2) w)
    (T.self X.A 0 _ _ _ (Amid.enter I2 ok hN T st2 f2).turn (dcn_turns (s0 := { s1 with heap := h2 }) hu hc I2 f2 rfl T (hg _ _ _ _ _) (ht _ _ _ _ _) (hk _ _ _ _ _) (he _ _ _ _ _) turn (fun s m H => out D _ s m H) (Amid.enter I2 ok hN T st2 f2) w))
/-- name = {..}, the name a local: the store is within the comprehension -/
theorem ps_setDc {i : Nat} {y : Str} {py spos : Pos} (hu : X.A.units + 9 < cLine) (hc : X.calm = true) (hN : X.N.Nodup) (hy : X.N[i]? = some y) (hyl : X.env.scope.names.lookup y = some .local)
    (hsw : swapsWith (.DictComp kx vx [⟨tg, iter, ifs, 0⟩] scope pos) (some (.Name y py)) spos.line X.env = pure true) (hi : PI X tg iter wi) (ok : BlkOk X.N X.env.scope scope own)
    (hg : InBlk X scope fun Y => PG Y tg g) (ht : InBlk X scope fun Y => PTs Y ifs tt) (hk : InBlk X scope fun Y => PE Y kx tk) (he : InBlk X scope fun Y => PE Y vx tv) (hs : ∀ x, foldedSetIterable iter X.env x = pure x := by intro _; rfl) :
    PS X (.Assign [.Name y py] (.DictComp kx vx [⟨tg, iter, ifs, 0⟩] scope pos) spos) (tAsg (tDcN X wi g tt tk tv (own.map (·.2))) (gName i)) := .mk fun pins s σ H D I h => by
  rw [exec_Assign_Name_used _ _ _ _ hsw]
  refine wpAny_bind (wpAny_standAt (wpAny_bind (m := evalThenUse _ _ _) (wpAny_bind (thn (dcn_core (Qf := fun _ s' => SP X pins D .next s') hu hc hN I hi ok hg ht hk he hs (Q := fun x H1 => gName i x σ H1 D.nx) h fun L C s1 m H1 I1 q ns fr => ?_) fun _ s' r => wpAny_pure (wpAny_pure r)))))
  have stored : ∀ s2, Inv X pins (σ.set i (some (V.ref L))) H1 s2 → (∃ a, Heap.SameBut a s1.heap s2.heap ∧ (a = X.env.locals ∨ X.env.cells.lookup y = some a)) → ∃ m, s2.heap.Ns C m ∧ ∀ h', Heap.SameBut C s2.heap h' → SP X pins D .next { s2 with heap := h' } := fun s2 I2 ⟨a, same, ha⟩ => by
    have ne : C ≠ a := ha.elim (fun z => z ▸ fr.2.1) fun z e => fr.2.2.2.2.1 y a z e.symm
    refine ⟨m, ns.sameBut same ne, fun h' same' => ⟨_, H1, I2.turned (t' := s2.toks) (fun b o nb e => (same'.2 b nb).trans e) fr.1 fr.2.1 fr.2.2.2.1 fr.2.2.2.2.1 fr.2.2.2.2.2, q⟩⟩
  exact wpAny_assign_Name (store_ok2 (v := V.ref L) I1 hN hy (.inl hyl) rfl stored (.inr hyl))
/-- the test looks at the scope, the place and the name alone, whatever the comprehension builds -/
theorem swd_true {gs : List Comprehension} {py : Pos} {y : Str} {l : Nat} {env : Env} (hk : env.scope.kind = .function) (hy : env.scope.names.lookup y = some .local) (hl : (py.line == pos.line) = true)
    (ha : (scope.names.any fun (n, k) => n == y && (k == .local || k == .cell)) = false) : swapsWith (.DictComp kx vx gs scope pos) (some (.Name y py)) l env = pure true :=
  (rfl : swapsWith (.DictComp kx vx gs scope pos) (some (.Name y py)) l env = swapsWith (.ListComp kx gs scope pos) (some (.Name y py)) l env).trans (sw_true (elt := kx) (gs := gs) (l := l) hk hy hl ha)
end
end ND

set_option Elab.async false
set_option linter.all false
set_option maxRecDepth 100000
set_option maxHeartbeats 4000000
/-! ND28: y = {..}, in short; by equations. -/
namespace ND
open PySem PySem.Spec L2
open PyProof.Rows hiding St
section
variable {X : Cx} {kx vx tg iter : Expr} {ifs : List Expr} {h : FF} {g : GF} {t : BF} {fk fv : EF} {pos : Pos} {scope : Scope} {own : List (Str × Nat)} {is : List Nat} {bb : Bool}
theorem ds_ownDc {i : Nat} {y : Str} {py spos : Pos} (hu : X.A.units + 9 < cLine) (hc : X.calm = true) (hN : X.N.Nodup) (hy : X.N[i]? = some y) (hyl : X.env.scope.names.lookup y = some .local)
    (hsw : swapsWith (.DictComp kx vx [⟨tg, iter, ifs, 0⟩] scope pos) (some (.Name y py)) spos.line X.env = pure true) (hi : DI X tg iter bb h) (ok : BlkOk X.N X.env.scope scope own)
    (hg : ∀ (s : Shared) (H : Hp) (C : Addr) (cl : List (Str × Addr)) (fp : List Addr), DG (X.blk s H scope (compEnvC scope cl C X.env) fp) tg bb is g)
    (ht : ∀ (s : Shared) (H : Hp) (C : Addr) (cl : List (Str × Addr)) (fp : List Addr), DTs (X.blk s H scope (compEnvC scope cl C X.env) fp) ifs t)
    (hk : ∀ (s : Shared) (H : Hp) (C : Addr) (cl : List (Str × Addr)) (fp : List Addr), DE (X.blk s H scope (compEnvC scope cl C X.env) fp) kx fk)
    (he : ∀ (s : Shared) (H : Hp) (C : Addr) (cl : List (Str × Addr)) (fp : List Addr), DE (X.blk s H scope (compEnvC scope cl C X.env) fp) vx fv) (his : ∀ j ∈ is, j ∈ own.map (·.2) := by decide)
    (hs : ∀ x, foldedSetIterable iter X.env x = pure x := by intro _; rfl) : DS X (.Assign [.Name y py] (.DictComp kx vx [⟨tg, iter, ifs, 0⟩] scope pos) spos) (ownKS i (dcK h g t fk fv (own.map (·.2)))) :=
  (ps_setDc (i := i) (g := tDG X bb is g) (tt := tDT X t) (tk := tD X fk) (tv := tD X fv) hu hc hN hy hyl hsw hi ok hg ht hk he hs).mono fun D σ H q => dc_td his (ownK_td q)
end
/-- d[k] -/
def ixD : W → W → Option W
  | .dct kvs, .dat kd => (keyOf kd).bind fun _ => (lookD kvs kd).map .dat
  | _, _ => none
section
variable {X : Cx} {a b : Expr} {f g : EF} {pos : Pos}
theorem opd_ixD : OpD X (rIxD X) ixD := fun T M H w1 w2 w v1 v2 Q e tr mt r1 r2 k => by
  cases w1 with
  | dat _ => cases e
  | tape => cases e
  | dct kvs =>
    cases w2 with
    | tape => cases e
    | dct _ => cases e
    | dat kd =>
      cases ek : keyOf kd with
      | none => rw [show ixD (.dct kvs) (.dat kd) = (keyOf kd).bind _ from rfl, ek] at e; cases e
      | some kk =>
        rw [show ixD (.dct kvs) (.dat kd) = (keyOf kd).bind _ from rfl, ek] at e
        cases el : lookD kvs kd with
        | none => rw [Option.bind_some, el] at e; cases e
        | some vd =>
          rw [Option.bind_some, el] at e
          cases e
          obtain ⟨a, rfl, nT, hd⟩ := r1
          obtain ⟨_, _, ds, ed⟩ := keyOf_some ek
          exact ⟨T, M, a, kvs, kd, kk, vd, rfl, hd, r2.rp ed, ek, el, fun v rv => k v H (Gr.refl H) rv⟩
theorem de_ixD (hu : X.A.units + 9 < cLine) (ha : DB X a f) (hb : DB X b g) (hs : PlainIx b) : DE X (.Subscript a b pos) (op2 ixD f g) := de_ix (ix_dct hu) opd_ixD ha hb hs
end
section
variable {ρ ρ1 ρ2 ρ3 : EnvD} {τ τ1 τ2 τ3 : Tape} {f g h : EF} {k : FF} {p : BF} {w : W}
theorem ev_get {kvs : List (PyData × PyData)} {kd dd : PyData} {kk : NestedKey} (h1 : f ρ τ = some (.dct kvs, ρ1, τ1)) (h2 : g ρ1 τ1 = some (.dat kd, ρ2, τ2)) (h3 : h ρ2 τ2 = some (.dat dd, ρ3, τ3)) (h4 : keyOf kd = some kk) : getE f g h ρ τ = some (.dat ((lookD kvs kd).getD dd), ρ3, τ3) := by
  unfold getE; rw [h1]; simp only [Option.bind_some]; rw [h2]; simp only [Option.bind_some]; rw [h3]; simp only [Option.bind_some]; rw [h4]; rfl
theorem ev_dcL {α : Type} {enc : α → PyData} {gg : GF} {vs : List Nat} {fk fv : EF} {r : α → EnvD} {t : α → Bool} {kk vv : α → PyData} : ∀ (l : List α) (acc : List (PyData × PyData)),
    (∀ a ∈ l, gg (enc a) ρ = some (r a)) → (∀ a ∈ l, p (r a) τ = some (t a, r a, τ)) → (∀ a ∈ l, t a = true → fk (r a) τ = some (.dat (kk a), r a, τ)) → (∀ a ∈ l, t a = true → fv (r a) τ = some (.dat (vv a), r a, τ)) →
    (∀ a ∈ l, (keyOf (kk a)).isSome = true) → (∀ a ∈ l, wipeD (r a) vs = ρ) → acc.length + l.length ≤ 16777216 → dcL gg p fk fv vs (l.map enc) acc ρ τ = some ((l.filter t).foldl (fun acc a => putD acc (kk a) (vv a)) acc, ρ, τ)
  | [], acc, _, _, _, _, _, _, _ => rfl
  | a :: l, acc, hg, hp, hk, hv, hy, hw, hl => by
    have m : a ∈ a :: l := List.mem_cons_self
    have ih := fun acc hl => ev_dcL l acc (fun b mb => hg b (List.mem_cons_of_mem _ mb)) (fun b mb => hp b (List.mem_cons_of_mem _ mb)) (fun b mb => hk b (List.mem_cons_of_mem _ mb)) (fun b mb => hv b (List.mem_cons_of_mem _ mb)) (fun b mb => hy b (List.mem_cons_of_mem _ mb)) (fun b mb => hw b (List.mem_cons_of_mem _ mb)) hl
    rw [List.map_cons]
    unfold dcL
    rw [hg a m]
    simp only [Option.bind_some]
    rw [hp a m]
    simp only [Option.bind_some]
    rw [List.length_cons] at hl
    cases e : t a with
    | false =>
      rw [if_neg Bool.false_ne_true, hw a m, List.filter_cons_of_neg (by rw [e]; exact Bool.false_ne_true)]
      exact ih acc (by omega)
    | true =>
      rw [if_pos rfl, hk a m e]
      simp only [Option.bind_some]
      rw [hv a m e]
      simp only [Option.bind_some]
      rw [if_pos ⟨hy a m, by omega⟩, hw a m, List.filter_cons_of_pos e, List.foldl_cons]
      have := putD_length acc (kk a) (vv a)
      exact ih _ (by omega)
theorem ev_dc {gg : GF} {vs : List Nat} {fk fv : EF} {ds : List PyData} {out : List (PyData × PyData)} {ρw : EnvD} (h1 : k ρ τ = some (ds, ρ1, τ1)) (hw : wipeD ρ1 vs = ρw) (h2 : dcL gg p fk fv vs ds [] ρw τ1 = some (out, ρ2, τ2)) (h3 : mergeD ρ1 ρ2 vs = ρ3) : dcK k gg p fk fv vs ρ τ = some (out, ρ3, τ2) := by
  unfold dcK; rw [h1]; simp only [Option.bind_some]; rw [hw, h2, ← h3]; rfl
end
end ND

set_option Elab.async false
set_option linter.all false
set_option maxRecDepth 100000
set_option maxHeartbeats 4000000
set_option pp.maxSteps 300
/-! the mirrors of the defs (printed by gen.py) -/
namespace ND
open PySem
-- 0 thing, 1 low, 2 high
def b_is_within : SF :=
    retS (andE (un1 (isiW ["int"]) (bvar 0)) (andE (notE (un1 (isiW ["bool"]) (bvar 0))) (chainLe (bvar 1) (bvar 0) (bvar 2))))
def f_is_within : List W → Tape → Option (W × Tape) := fnF 3 3 b_is_within
theorem pu_f_is_within : PuF f_is_within := pu_fn (pu_retS (pu_andE (pu_un1 (pu_bvar _)) (pu_andE (pu_notE (pu_un1 (pu_bvar _))) (pu_chain (pu_bvar _) (pu_bvar _) (pu_bvar _)))))
-- 0 some, 1 one, 2 two
def b_rise : SF :=
    retS (callF allF (consA (ofN (lcN (zipI (consA (var 0) (consA (slF (bvar 0) (someO (cst (.int 1))) (noO)) (nilA)))) (tupG 2 (consG (nameG 1) (consG (nameG 2) (nilG)))) (yesB) (op2 ltW (bvar 1) (bvar 2)) [1, 2])) (nilA)))
def f_rise : List W → Tape → Option (W × Tape) := fnF 1 3 b_rise
theorem pu_f_rise : PuF f_rise := pu_fn (pu_retS (pu_callF (pu_consA (pu_ofN (pu_lcN (pu_zip (pu_consA (pu_var _) (pu_consA (pu_slF (pu_bvar _) (pu_someO (pu_cst _)) (pu_noO)) (pu_nilA)))) (pu_yesB) (pu_op2 (pu_bvar _) (pu_bvar _)))) (pu_nilA))))
-- 0 thing, 1 doll
def b_is_stack : SF :=
    seqS (ifS (orB (notB (tst (un1 (isiW ["tuple"]) (bvar 0)))) (orB (tst (op2 eqW (callF lenF (consA (bvar 0) (nilA))) (cst (.int 0)))) (notB (tst (callF allF (consA (ofN (lcN (seqI (var 0)) (nameG 1) (yesB) (callD (f_is_within) (consA (var 1) (consA (cst (.int 1)) (consA (cst (.int 6)) (nilA))))) [1])) (nilA))))))) (retS (cst (.bool false))) (skipS)) <|
    retS (callD (f_rise) (consA (var 0) (nilA)))
def f_is_stack : List W → Tape → Option (W × Tape) := fnF 1 2 b_is_stack
theorem pu_f_is_stack : PuF f_is_stack := pu_fn (pu_seqS (pu_ifS (pu_orB (pu_notB (pu_tst (pu_un1 (pu_bvar _)))) (pu_orB (pu_tst (pu_op2 (pu_callF (pu_consA (pu_bvar _) (pu_nilA))) (pu_cst _))) (pu_notB (pu_tst (pu_callF (pu_consA (pu_ofN (pu_lcN (pu_seqI (pu_var _)) (pu_yesB) (pu_callD (pu_f_is_within) (pu_consA (pu_var _) (pu_consA (pu_cst _) (pu_consA (pu_cst _) (pu_nilA))))))) (pu_nilA))))))) (pu_retS (pu_cst _)) (pu_skipS)) (pu_retS (pu_callD (pu_f_rise) (pu_consA (pu_var _) (pu_nilA)))))
-- 0 standing, 1 stack, 2 doll
def b_dolls : SF :=
    retS (callF sortedF (consA (ofN (lc2N (seqI (var 0)) (nameG 1) (seqI (var 1)) (nameG 2) (yesB) (var 2) [1, 2] [2])) (nilA)))
def f_dolls : List W → Tape → Option (W × Tape) := fnF 1 3 b_dolls
theorem pu_f_dolls : PuF f_dolls := pu_fn (pu_retS (pu_callF (pu_consA (pu_ofN (pu_lc2N (pu_seqI (pu_var _)) (pu_seqI (pu_var _)) (pu_yesB) (pu_var _))) (pu_nilA))))
-- 0 thing, 1 some, 2 stack
def b_is_standing : SF :=
    seqS (ifS (orB (notB (tst (un1 (isiW ["tuple"]) (bvar 0)))) (orB (tst (op2 eqW (callF lenF (consA (bvar 0) (nilA))) (cst (.int 0)))) (notB (tst (callF allF (consA (ofN (lcN (seqI (var 0)) (nameG 2) (yesB) (callD (f_is_stack) (consA (var 2) (nilA))) [2])) (nilA))))))) (retS (cst (.bool false))) (skipS)) <|
    seqS (setS 1 (callD (f_dolls) (consA (var 0) (nilA)))) <|
    retS (andE (callD (f_rise) (consA (var 0) (nilA))) (op2 eqW (bvar 1) (ofN (rg2D (cst (.int 1)) (op2 addW (callF lenF (consA (bvar 1) (nilA))) (cst (.int 1)))))))
def f_is_standing : List W → Tape → Option (W × Tape) := fnF 1 3 b_is_standing
theorem pu_f_is_standing : PuF f_is_standing := pu_fn (pu_seqS (pu_ifS (pu_orB (pu_notB (pu_tst (pu_un1 (pu_bvar _)))) (pu_orB (pu_tst (pu_op2 (pu_callF (pu_consA (pu_bvar _) (pu_nilA))) (pu_cst _))) (pu_notB (pu_tst (pu_callF (pu_consA (pu_ofN (pu_lcN (pu_seqI (pu_var _)) (pu_yesB) (pu_callD (pu_f_is_stack) (pu_consA (pu_var _) (pu_nilA))))) (pu_nilA))))))) (pu_retS (pu_cst _)) (pu_skipS)) (pu_seqS (pu_setS (pu_callD (pu_f_dolls) (pu_consA (pu_var _) (pu_nilA)))) (pu_retS (pu_andE (pu_callD (pu_f_rise) (pu_consA (pu_var _) (pu_nilA))) (pu_op2 (pu_bvar _) (pu_ofN (pu_rg2D (pu_cst _) (pu_op2 (pu_callF (pu_consA (pu_bvar _) (pu_nilA))) (pu_cst _)))))))))
-- 0 many, 1 found, 2 doll, 3 fresh, 4 standing, 5 at, 6 stack
def b_standings : SF :=
    seqS (setS 1 (ofN (lstN (consA (tupF (nilA)) (nilA))))) <|
    seqS (forS (rng2I (consA (cst (.int 1)) (consA (op2 addW (bvar 0) (cst (.int 1))) (nilA)))) (nameG 2) (seqS (ownS 3 (lstN (nilA))) <|
    seqS (forS (seqI (var 1)) (nameG 4) (seqS (appS 3 (op2 addW (bvar 4) (tupF (consA (tupF (consA (var 2) (nilA))) (nilA))))) <|
    forS (enumI (consA (var 4) (nilA))) (tupG 2 (consG (nameG 5) (consG (nameG 6) (nilG)))) (appS 3 (op2 addW (op2 addW (slF (bvar 4) (noO) (someO (bvar 5))) (tupF (consA (op2 addW (bvar 6) (tupF (consA (var 2) (nilA)))) (nilA)))) (slF (bvar 4) (someO (op2 addW (bvar 5) (cst (.int 1)))) (noO)))))) <|
    setS 1 (var 3))) <|
    retS (callF sortedF (consA (ofN (lcN (seqI (var 1)) (nameG 4) (yesB) (callF tupleF (consA (callF sortedF (consA (bvar 4) (nilA))) (nilA))) [4])) (nilA)))
def f_standings : List W → Tape → Option (W × Tape) := fnF 1 7 b_standings
theorem pu_f_standings : PuF f_standings := pu_fn (pu_seqS (pu_setS (pu_ofN (pu_lstN (pu_consA (pu_tupF (pu_nilA)) (pu_nilA))))) (pu_seqS (pu_forS (pu_rng2 (pu_consA (pu_cst _) (pu_consA (pu_op2 (pu_bvar _) (pu_cst _)) (pu_nilA)))) (pu_seqS (pu_ownS (pu_lstN (pu_nilA))) (pu_seqS (pu_forS (pu_seqI (pu_var _)) (pu_seqS (pu_appS (pu_op2 (pu_bvar _) (pu_tupF (pu_consA (pu_tupF (pu_consA (pu_var _) (pu_nilA))) (pu_nilA))))) (pu_forS (pu_enum (pu_consA (pu_var _) (pu_nilA))) (pu_appS (pu_op2 (pu_op2 (pu_slF (pu_bvar _) (pu_noO) (pu_someO (pu_bvar _))) (pu_tupF (pu_consA (pu_op2 (pu_bvar _) (pu_tupF (pu_consA (pu_var _) (pu_nilA)))) (pu_nilA)))) (pu_slF (pu_bvar _) (pu_someO (pu_op2 (pu_bvar _) (pu_cst _))) (pu_noO))))))) (pu_setS (pu_var _))))) (pu_retS (pu_callF (pu_consA (pu_ofN (pu_lcN (pu_seqI (pu_var _)) (pu_yesB) (pu_callF (pu_consA (pu_callF (pu_consA (pu_bvar _) (pu_nilA))) (pu_nilA))))) (pu_nilA))))))
-- 0 standing, 1 doll, 2 stack
def b_stack_of : SF :=
    retS (op2 ixW (ofN (lcN (seqI (var 0)) (nameG 2) (tst (op2 (inW false) (bvar 1) (bvar 2))) (var 2) [2])) (cst (.int 0)))
def f_stack_of : List W → Tape → Option (W × Tape) := fnF 2 3 b_stack_of
theorem pu_f_stack_of : PuF f_stack_of := pu_fn (pu_retS (pu_op2 (pu_ofN (pu_lcN (pu_seqI (pu_var _)) (pu_tst (pu_op2 (pu_bvar _) (pu_bvar _))) (pu_var _))) (pu_cst _)))
-- 0 standing, 1 doll, 2 stack
def b_within : SF :=
    seqS (setS 2 (callD (f_stack_of) (consA (var 0) (consA (var 1) (nilA))))) <|
    retS (slF (bvar 2) (noO) (someO (op2 idxW (bvar 2) (bvar 1))))
def f_within : List W → Tape → Option (W × Tape) := fnF 2 3 b_within
theorem pu_f_within : PuF f_within := pu_fn (pu_seqS (pu_setS (pu_callD (pu_f_stack_of) (pu_consA (pu_var _) (pu_consA (pu_var _) (pu_nilA))))) (pu_retS (pu_slF (pu_bvar _) (pu_noO) (pu_someO (pu_op2 (pu_bvar _) (pu_bvar _))))))
-- 0 tape, 1 many, 2 prime, 3 cell, 4 found
def b__law_draw : SF :=
    seqS (setS 2 (cst (.int 2305843009213693951))) <|
    seqS (ifS (tst (op2 ltW (tapeIx 0 2) (bvar 1))) (seqS (setS 3 (cst (.int 0))) <|
    seqS (ifS (tst (op2 gtW (callF lenF (consA (tapeIx 0 0) (nilA))) (cst (.int 0)))) (setS 3 (op2 ixW (tapeIx 0 0) (op2 modW (tapeIx 0 1) (callF lenF (consA (tapeIx 0 0) (nilA)))))) (skipS)) <|
    seqS (ifS (orB (tst (op2 geW (tapeIx 0 1) (callF lenF (consA (tapeIx 0 0) (nilA))))) (tst (op2 ltW (bvar 3) (op2 powW (cst (.int 10)) (cst (.int 18)))))) (seqS (setS 3 (op2 modW (op2 addW (bvar 3) (op2 mulW (cst (.int 1000003)) (tapeIx 0 1))) (bvar 2))) <|
    seqS (setS 3 (op2 modW (op2 addW (op2 addW (op2 mulW (bvar 3) (bvar 3)) (op2 mulW (cst (.int 1181783497276652981)) (bvar 3))) (cst (.int 2049848353892358983))) (bvar 2))) <|
    setS 3 (op2 modW (op2 addW (op2 mulW (bvar 3) (bvar 3)) (cst (.int 1442695040888963407))) (bvar 2))) (skipS)) <|
    seqS (tapeS 0 1 (op2 addW (tapeIx 0 1) (cst (.int 1)))) <|
    tapeS 0 2 (var 3)) (skipS)) <|
    seqS (setS 4 (op2 modW (tapeIx 0 2) (bvar 1))) <|
    seqS (tapeS 0 2 (op2 fdivW (tapeIx 0 2) (bvar 1))) <|
    retS (var 4)
def f__law_draw : List W → Tape → Option (W × Tape) := fnF 2 5 b__law_draw
-- 0 item
def b__law_whole : SF :=
    retS (andE (un1 (isiW ["int"]) (bvar 0)) (notE (un1 (isiW ["bool"]) (bvar 0))))
def f__law_whole : List W → Tape → Option (W × Tape) := fnF 1 1 b__law_whole
theorem pu_f__law_whole : PuF f__law_whole := pu_fn (pu_retS (pu_andE (pu_un1 (pu_bvar _)) (pu_notE (pu_un1 (pu_bvar _)))))
-- 0 item, 1 low, 2 high
def b__law_within : SF :=
    retS (andE (callD (f__law_whole) (consA (var 0) (nilA))) (chainLe (bvar 1) (bvar 0) (bvar 2)))
def f__law_within : List W → Tape → Option (W × Tape) := fnF 3 3 b__law_within
theorem pu_f__law_within : PuF f__law_within := pu_fn (pu_retS (pu_andE (pu_callD (pu_f__law_whole) (pu_consA (pu_var _) (pu_nilA))) (pu_chain (pu_bvar _) (pu_bvar _) (pu_bvar _))))
-- 0 one, 1 two, 2 k
def b__law_like (rec : List W → Tape → Option (W × Tape)) : SF :=
    seqS (ifS (tst (un1 (isiW ["list", "tuple"]) (bvar 0))) (seqS (ifS (orB (tst (op2 neW (un1 (isiW ["list"]) (bvar 0)) (un1 (isiW ["list"]) (bvar 1)))) (tst (op2 neW (un1 (isiW ["tuple"]) (bvar 0)) (un1 (isiW ["tuple"]) (bvar 1))))) (retS (cst (.bool false))) (skipS)) <|
    seqS (ifS (tst (op2 neW (callF lenF (consA (bvar 0) (nilA))) (callF lenF (consA (bvar 1) (nilA))))) (retS (cst (.bool false))) (skipS)) <|
    retS (op2 eqW (ofN (lcN (rng1I (consA (callF lenF (consA (bvar 0) (nilA))) (nilA))) (nameG 2) (notB (tst (callD rec (consA (op2 ixW (bvar 0) (bvar 2)) (consA (op2 ixW (bvar 1) (bvar 2)) (nilA)))))) (var 2) [2])) (ofN (lstN (nilA))))) (skipS)) <|
    seqS (ifS (tst (un1 (isiW ["list", "tuple"]) (bvar 1))) (retS (cst (.bool false))) (skipS)) <|
    retS (andE (op2 eqW (un1 (isiW ["bool"]) (bvar 0)) (un1 (isiW ["bool"]) (bvar 1))) (op2 eqW (bvar 0) (bvar 1)))
def f__law_like : Nat → List W → Tape → Option (W × Tape)
  | 0 => fun _ _ => none
  | n + 1 => fnF 2 3 (b__law_like (f__law_like n))
theorem pu_f__law_like : ∀ n, PuF (f__law_like n)
  | 0 => pu_f0
  | n + 1 => by
    have hrec := pu_f__law_like n
    exact pu_fn (pu_seqS (pu_ifS (pu_tst (pu_un1 (pu_bvar _))) (pu_seqS (pu_ifS (pu_orB (pu_tst (pu_op2 (pu_un1 (pu_bvar _)) (pu_un1 (pu_bvar _)))) (pu_tst (pu_op2 (pu_un1 (pu_bvar _)) (pu_un1 (pu_bvar _))))) (pu_retS (pu_cst _)) (pu_skipS)) (pu_seqS (pu_ifS (pu_tst (pu_op2 (pu_callF (pu_consA (pu_bvar _) (pu_nilA))) (pu_callF (pu_consA (pu_bvar _) (pu_nilA))))) (pu_retS (pu_cst _)) (pu_skipS)) (pu_retS (pu_op2 (pu_ofN (pu_lcN (pu_rng1 (pu_consA (pu_callF (pu_consA (pu_bvar _) (pu_nilA))) (pu_nilA))) (pu_notB (pu_tst (pu_callD hrec (pu_consA (pu_op2 (pu_bvar _) (pu_bvar _)) (pu_consA (pu_op2 (pu_bvar _) (pu_bvar _)) (pu_nilA)))))) (pu_var _))) (pu_ofN (pu_lstN (pu_nilA))))))) (pu_skipS)) (pu_seqS (pu_ifS (pu_tst (pu_un1 (pu_bvar _))) (pu_retS (pu_cst _)) (pu_skipS)) (pu_retS (pu_andE (pu_op2 (pu_un1 (pu_bvar _)) (pu_un1 (pu_bvar _))) (pu_op2 (pu_bvar _) (pu_bvar _))))))
-- 0 tape, 1 deep, 2 course, 3 some, 4 k
def b__law_any (rec : List W → Tape → Option (W × Tape)) : SF :=
    seqS (setS 2 (callD (f__law_draw) (consA (var 0) (consA (cst (.int 13)) (nilA))))) <|
    seqS (ifS (andB (tst (op2 ltW (bvar 2) (cst (.int 4)))) (tst (op2 gtW (bvar 1) (cst (.int 0))))) (seqS (setS 3 (ofN (lcN (rng1I (consA (callD (f__law_draw) (consA (var 0) (consA (cst (.int 4)) (nilA)))) (nilA))) (nameG 4) (yesB) (callD rec (consA (var 0) (consA (op2 subW (bvar 1) (cst (.int 1))) (nilA)))) [4]))) <|
    retS (op2 ixW (ofN (lstN (consA (var 3) (consA (callF tupleF (consA (bvar 3) (nilA))) (consA (callF tupleF (consA (bvar 3) (nilA))) (consA (callF tupleF (consA (bvar 3) (nilA))) (nilA))))))) (bvar 2))) (skipS)) <|
    seqS (ifS (tst (op2 ltW (bvar 2) (cst (.int 8)))) (retS (op2 ixW (ofN (lstN (consA (op2 subW (callD (f__law_draw) (consA (var 0) (consA (cst (.int 12)) (nilA)))) (cst (.int 2))) (consA (callD (f__law_draw) (consA (var 0) (consA (op2 powW (cst (.int 10)) (cst (.int 12))) (nilA)))) (consA (cst (.int 0)) (consA (cst (.int 7)) (nilA))))))) (callF max2F (consA (cst (.int 0)) (consA (op2 subW (bvar 2) (cst (.int 4))) (nilA)))))) (skipS)) <|
    seqS (setS 3 (ofN (lstN (consA (cst (.str "")) (consA (cst (.str " ")) (consA (cst (.str "a")) (consA (cst (.str "open")) (consA (cst (.str "nest")) (consA (cst (.str "1")) (consA (cst (.str "A")) (consA (cst (.str "a\nb")) (nilA)))))))))))) <|
    retS (op2 ixW (ofN (lstN (consA (cst (.bool true)) (consA (cst (.bool false)) (consA (cst .none) (consA (op2 ixW (bvar 3) (callD (f__law_draw) (consA (var 0) (consA (cst (.int 8)) (nilA))))) (consA (tupF (consA (cst (.int 1)) (consA (cst (.int 2)) (nilA)))) (nilA)))))))) (op2 subW (bvar 2) (cst (.int 8))))
def f__law_any : Nat → List W → Tape → Option (W × Tape)
  | 0 => fun _ _ => none
  | n + 1 => fnF 2 5 (b__law_any (f__law_any n))
-- 0 tape, 1 item, 2 k, 3 rest, 4 course, 5 at
def b__law_spoilt (rec : List W → Tape → Option (W × Tape)) : SF :=
    seqS (ifS (andB (tst (un1 (isiW ["tuple", "list"]) (bvar 1))) (andB (tst (op2 gtW (callF lenF (consA (bvar 1) (nilA))) (cst (.int 0)))) (tst (op2 gtW (callD (f__law_draw) (consA (var 0) (consA (cst (.int 7)) (nilA)))) (cst (.int 0)))))) (seqS (setS 2 (callD (f__law_draw) (consA (var 0) (consA (callF lenF (consA (bvar 1) (nilA))) (nilA))))) <|
    seqS (ownS 3 (listN (consA (bvar 1) (nilA)))) <|
    seqS (setS 4 (callD (f__law_draw) (consA (var 0) (consA (cst (.int 12)) (nilA))))) <|
    seqS (ifS (tst (op2 ltW (bvar 4) (cst (.int 8)))) (setIxS 3 (callD rec (consA (var 0) (consA (op2 ixW (bvar 3) (bvar 2)) (nilA)))) (bvar 2)) (ifS (tst (op2 eqW (bvar 4) (cst (.int 8)))) (popAtS 3 (var 2)) (ifS (tst (op2 eqW (bvar 4) (cst (.int 9)))) (insS 3 (var 2) (op2 ixW (bvar 3) (callD (f__law_draw) (consA (var 0) (consA (callF lenF (consA (bvar 3) (nilA))) (nilA)))))) (ifS (tst (op2 eqW (bvar 4) (cst (.int 10)))) (setS 3 (un1 revW (bvar 3))) (insS 3 (var 2) (callD (f__law_any 20) (consA (var 0) (consA (cst (.int 1)) (nilA))))))))) <|
    retS (ifE (tst (un1 (isiW ["tuple"]) (bvar 1))) (callF tupleF (consA (bvar 3) (nilA))) (var 3))) (skipS)) <|
    seqS (ifS (andB (tst (callD (f__law_whole) (consA (var 1) (nilA)))) (tst (op2 gtW (callD (f__law_draw) (consA (var 0) (consA (cst (.int 6)) (nilA)))) (cst (.int 0))))) (retS (op2 addW (bvar 1) (op2 ixW (ofN (lstN (consA (cst (.int 1)) (consA (un1 negF (cst (.int 1))) (consA (cst (.int 2)) (consA (un1 negF (cst (.int 2))) (consA (cst (.int 9)) (consA (cst (.int 1000)) (nilA))))))))) (callD (f__law_draw) (consA (var 0) (consA (cst (.int 6)) (nilA))))))) (skipS)) <|
    seqS (ifS (andB (tst (un1 (isiW ["str"]) (bvar 1))) (tst (op2 gtW (callD (f__law_draw) (consA (var 0) (consA (cst (.int 3)) (nilA)))) (cst (.int 0))))) (seqS (setS 5 (callD (f__law_draw) (consA (var 0) (consA (op2 addW (callF lenF (consA (bvar 1) (nilA))) (cst (.int 1))) (nilA))))) <|
    retS (op2 addW (op2 addW (slF (bvar 1) (noO) (someO (bvar 5))) (op2 ixW (ofN (lstN (consA (cst (.str " ")) (consA (cst (.str "z")) (consA (cst (.str "A")) (consA (cst (.str "|")) (consA (cst (.str "abcdefgh")) (consA (cst (.str "")) (nilA))))))))) (callD (f__law_draw) (consA (var 0) (consA (cst (.int 6)) (nilA)))))) (slF (bvar 1) (someO (bvar 5)) (noO)))) (skipS)) <|
    seqS (ifS (andB (tst (un1 (isiW ["tuple", "list"]) (bvar 1))) (tst (op2 eqW (callD (f__law_draw) (consA (var 0) (consA (cst (.int 2)) (nilA)))) (cst (.int 0))))) (retS (ifE (tst (un1 (isiW ["tuple"]) (bvar 1))) (ofN (listN (consA (bvar 1) (nilA)))) (callF tupleF (consA (bvar 1) (nilA))))) (skipS)) <|
    retS (callD (f__law_any 20) (consA (var 0) (consA (cst (.int 2)) (nilA))))
def f__law_spoilt : Nat → List W → Tape → Option (W × Tape)
  | 0 => fun _ _ => none
  | n + 1 => fnF 2 6 (b__law_spoilt (f__law_spoilt n))
-- 0 some, 1 k
def b__law_rises : SF :=
    retS (op2 eqW (ofN (lcN (rng2I (consA (cst (.int 1)) (consA (callF lenF (consA (bvar 0) (nilA))) (nilA)))) (nameG 1) (notB (tst (op2 ltW (op2 ixW (bvar 0) (op2 subW (bvar 1) (cst (.int 1)))) (op2 ixW (bvar 0) (bvar 1))))) (var 1) [1])) (ofN (lstN (nilA))))
def f__law_rises : List W → Tape → Option (W × Tape) := fnF 1 2 b__law_rises
theorem pu_f__law_rises : PuF f__law_rises := pu_fn (pu_retS (pu_op2 (pu_ofN (pu_lcN (pu_rng2 (pu_consA (pu_cst _) (pu_consA (pu_callF (pu_consA (pu_bvar _) (pu_nilA))) (pu_nilA)))) (pu_notB (pu_tst (pu_op2 (pu_op2 (pu_bvar _) (pu_op2 (pu_bvar _) (pu_cst _))) (pu_op2 (pu_bvar _) (pu_bvar _))))) (pu_var _))) (pu_ofN (pu_lstN (pu_nilA)))))
-- 0 tape, 1 many, 2 stacks, 3 doll, 4 at
def b__law_standing : SF :=
    seqS (ownS 2 (lstN (nilA))) <|
    seqS (forS (rng2I (consA (cst (.int 1)) (consA (op2 addW (bvar 1) (cst (.int 1))) (nilA)))) (nameG 3) (seqS (setS 4 (callD (f__law_draw) (consA (var 0) (consA (op2 addW (callF lenF (consA (bvar 2) (nilA))) (cst (.int 1))) (nilA))))) <|
    ifS (tst (op2 ltW (bvar 4) (callF lenF (consA (bvar 2) (nilA))))) (setIxS 2 (op2 addW (op2 ixW (bvar 2) (bvar 4)) (tupF (consA (var 3) (nilA)))) (bvar 4)) (appS 2 (tupF (consA (var 3) (nilA)))))) <|
    retS (callF tupleF (consA (callF sortedF (consA (bvar 2) (nilA))) (nilA)))
def f__law_standing : List W → Tape → Option (W × Tape) := fnF 2 5 b__law_standing
-- 0 standing, 1 doll, 2 stack, 3 one
def b__law_in : SF :=
    seqS (forS (seqI (var 0)) (nameG 2) (ifS (tst (op2 (inW false) (bvar 1) (bvar 2))) (retS (callF tupleF (consA (ofN (lcN (seqI (var 2)) (nameG 3) (tst (op2 ltW (bvar 3) (bvar 1))) (var 3) [3])) (nilA)))) (skipS))) <|
    retS (cst .none)
def f__law_in : List W → Tape → Option (W × Tape) := fnF 2 4 b__law_in
theorem pu_f__law_in : PuF f__law_in := pu_fn (pu_seqS (pu_forS (pu_seqI (pu_var _)) (pu_ifS (pu_tst (pu_op2 (pu_bvar _) (pu_bvar _))) (pu_retS (pu_callF (pu_consA (pu_ofN (pu_lcN (pu_seqI (pu_var _)) (pu_tst (pu_op2 (pu_bvar _) (pu_bvar _))) (pu_var _))) (pu_nilA)))) (pu_skipS))) (pu_retS (pu_cst _)))
-- 0 many, 1 found, 2 doll, 3 longer, 4 stacks, 5 at
def b__law_every : SF :=
    seqS (setS 1 (ofN (lstN (consA (ofN (lstN (nilA))) (nilA))))) <|
    seqS (forS (rng2I (consA (cst (.int 1)) (consA (op2 addW (bvar 0) (cst (.int 1))) (nilA)))) (nameG 2) (seqS (ownS 3 (lstN (nilA))) <|
    seqS (forS (seqI (var 1)) (nameG 4) (seqS (appS 3 (op2 addW (bvar 4) (ofN (lstN (consA (tupF (consA (var 2) (nilA))) (nilA)))))) <|
    forS (rng1I (consA (callF lenF (consA (bvar 4) (nilA))) (nilA))) (nameG 5) (appS 3 (op2 addW (op2 addW (slF (bvar 4) (noO) (someO (bvar 5))) (ofN (lstN (consA (op2 addW (op2 ixW (bvar 4) (bvar 5)) (tupF (consA (var 2) (nilA)))) (nilA))))) (slF (bvar 4) (someO (op2 addW (bvar 5) (cst (.int 1)))) (noO)))))) <|
    setS 1 (var 3))) <|
    retS (callF sortedF (consA (ofN (lcN (seqI (var 1)) (nameG 4) (yesB) (callF tupleF (consA (callF sortedF (consA (bvar 4) (nilA))) (nilA))) [4])) (nilA)))
def f__law_every : List W → Tape → Option (W × Tape) := fnF 1 6 b__law_every
theorem pu_f__law_every : PuF f__law_every := pu_fn (pu_seqS (pu_setS (pu_ofN (pu_lstN (pu_consA (pu_ofN (pu_lstN (pu_nilA))) (pu_nilA))))) (pu_seqS (pu_forS (pu_rng2 (pu_consA (pu_cst _) (pu_consA (pu_op2 (pu_bvar _) (pu_cst _)) (pu_nilA)))) (pu_seqS (pu_ownS (pu_lstN (pu_nilA))) (pu_seqS (pu_forS (pu_seqI (pu_var _)) (pu_seqS (pu_appS (pu_op2 (pu_bvar _) (pu_ofN (pu_lstN (pu_consA (pu_tupF (pu_consA (pu_var _) (pu_nilA))) (pu_nilA)))))) (pu_forS (pu_rng1 (pu_consA (pu_callF (pu_consA (pu_bvar _) (pu_nilA))) (pu_nilA))) (pu_appS (pu_op2 (pu_op2 (pu_slF (pu_bvar _) (pu_noO) (pu_someO (pu_bvar _))) (pu_ofN (pu_lstN (pu_consA (pu_op2 (pu_op2 (pu_bvar _) (pu_bvar _)) (pu_tupF (pu_consA (pu_var _) (pu_nilA)))) (pu_nilA))))) (pu_slF (pu_bvar _) (pu_someO (pu_op2 (pu_bvar _) (pu_cst _))) (pu_noO))))))) (pu_setS (pu_var _))))) (pu_retS (pu_callF (pu_consA (pu_ofN (pu_lcN (pu_seqI (pu_var _)) (pu_yesB) (pu_callF (pu_consA (pu_callF (pu_consA (pu_bvar _) (pu_nilA))) (pu_nilA))))) (pu_nilA))))))
-- 0 item, 1 stack, 2 some, 3 one
def b__law_is_standing : SF :=
    seqS (ifS (orB (notB (tst (un1 (isiW ["tuple"]) (bvar 0)))) (tst (op2 eqW (bvar 0) (tupF (nilA))))) (retS (cst (.bool false))) (skipS)) <|
    seqS (forS (seqI (var 0)) (nameG 1) (seqS (ifS (orB (notB (tst (un1 (isiW ["tuple"]) (bvar 1)))) (orB (tst (op2 eqW (bvar 1) (tupF (nilA)))) (tst (op2 neW (ofN (lcN (seqI (var 1)) (nameG 3) (notB (tst (callD (f__law_within) (consA (var 3) (consA (cst (.int 1)) (consA (cst (.int 6)) (nilA))))))) (cst (.int 1)) [3])) (ofN (lstN (nilA))))))) (retS (cst (.bool false))) (skipS)) <|
    ifS (notB (tst (callD (f__law_rises) (consA (var 1) (nilA))))) (retS (cst (.bool false))) (skipS))) <|
    seqS (setS 2 (callF sortedF (consA (callF sumLF (consA (ofN (lcN (seqI (var 0)) (nameG 1) (yesB) (ofN (listN (consA (bvar 1) (nilA)))) [1])) (consA (ofN (lstN (nilA))) (nilA)))) (nilA)))) <|
    retS (andE (callD (f__law_rises) (consA (var 0) (nilA))) (op2 eqW (bvar 2) (ofN (rg2D (cst (.int 1)) (op2 addW (cst (.int 1)) (callF lenF (consA (bvar 2) (nilA))))))))
def f__law_is_standing : List W → Tape → Option (W × Tape) := fnF 1 4 b__law_is_standing
theorem pu_f__law_is_standing : PuF f__law_is_standing := pu_fn (pu_seqS (pu_ifS (pu_orB (pu_notB (pu_tst (pu_un1 (pu_bvar _)))) (pu_tst (pu_op2 (pu_bvar _) (pu_tupF (pu_nilA))))) (pu_retS (pu_cst _)) (pu_skipS)) (pu_seqS (pu_forS (pu_seqI (pu_var _)) (pu_seqS (pu_ifS (pu_orB (pu_notB (pu_tst (pu_un1 (pu_bvar _)))) (pu_orB (pu_tst (pu_op2 (pu_bvar _) (pu_tupF (pu_nilA)))) (pu_tst (pu_op2 (pu_ofN (pu_lcN (pu_seqI (pu_var _)) (pu_notB (pu_tst (pu_callD (pu_f__law_within) (pu_consA (pu_var _) (pu_consA (pu_cst _) (pu_consA (pu_cst _) (pu_nilA))))))) (pu_cst _))) (pu_ofN (pu_lstN (pu_nilA))))))) (pu_retS (pu_cst _)) (pu_skipS)) (pu_ifS (pu_notB (pu_tst (pu_callD (pu_f__law_rises) (pu_consA (pu_var _) (pu_nilA))))) (pu_retS (pu_cst _)) (pu_skipS)))) (pu_seqS (pu_setS (pu_callF (pu_consA (pu_callF (pu_consA (pu_ofN (pu_lcN (pu_seqI (pu_var _)) (pu_yesB) (pu_ofN (pu_listN (pu_consA (pu_bvar _) (pu_nilA)))))) (pu_consA (pu_ofN (pu_lstN (pu_nilA))) (pu_nilA)))) (pu_nilA)))) (pu_retS (pu_andE (pu_callD (pu_f__law_rises) (pu_consA (pu_var _) (pu_nilA))) (pu_op2 (pu_bvar _) (pu_ofN (pu_rg2D (pu_cst _) (pu_op2 (pu_cst _) (pu_callF (pu_consA (pu_bvar _) (pu_nilA))))))))))))
-- 0 standing, 1 spots, 2 found, 3 stack, 4 other
def b_moves : SF :=
    seqS (ownS 2 (lstN (nilA))) <|
    seqS (forS (seqI (var 0)) (nameG 3) (seqS (forS (seqI (var 0)) (nameG 4) (ifS (andB (tst (op2 eqW (callF lenF (consA (bvar 4) (nilA))) (cst (.int 1)))) (tst (op2 ltW (op2 ixW (bvar 3) (un1 negF (cst (.int 1)))) (op2 ixW (bvar 4) (cst (.int 0)))))) (appS 2 (tupF (consA (cst (.str "nest")) (consA (op2 ixW (bvar 3) (un1 negF (cst (.int 1)))) (consA (op2 ixW (bvar 4) (cst (.int 0))) (nilA)))))) (skipS))) <|
    ifS (andB (tst (op2 gtW (callF lenF (consA (bvar 3) (nilA))) (cst (.int 1)))) (tst (op2 ltW (callF lenF (consA (bvar 0) (nilA))) (bvar 1)))) (appS 2 (tupF (consA (cst (.str "open")) (consA (op2 ixW (bvar 3) (un1 negF (cst (.int 1)))) (nilA))))) (skipS))) <|
    retS (callF sortedF (consA (bvar 2) (nilA)))
def f_moves : List W → Tape → Option (W × Tape) := fnF 2 5 b_moves
theorem pu_f_moves : PuF f_moves := pu_fn (pu_seqS (pu_ownS (pu_lstN (pu_nilA))) (pu_seqS (pu_forS (pu_seqI (pu_var _)) (pu_seqS (pu_forS (pu_seqI (pu_var _)) (pu_ifS (pu_andB (pu_tst (pu_op2 (pu_callF (pu_consA (pu_bvar _) (pu_nilA))) (pu_cst _))) (pu_tst (pu_op2 (pu_op2 (pu_bvar _) (pu_un1 (pu_cst _))) (pu_op2 (pu_bvar _) (pu_cst _))))) (pu_appS (pu_tupF (pu_consA (pu_cst _) (pu_consA (pu_op2 (pu_bvar _) (pu_un1 (pu_cst _))) (pu_consA (pu_op2 (pu_bvar _) (pu_cst _)) (pu_nilA)))))) (pu_skipS))) (pu_ifS (pu_andB (pu_tst (pu_op2 (pu_callF (pu_consA (pu_bvar _) (pu_nilA))) (pu_cst _))) (pu_tst (pu_op2 (pu_callF (pu_consA (pu_bvar _) (pu_nilA))) (pu_bvar _)))) (pu_appS (pu_tupF (pu_consA (pu_cst _) (pu_consA (pu_op2 (pu_bvar _) (pu_un1 (pu_cst _))) (pu_nilA))))) (pu_skipS)))) (pu_retS (pu_callF (pu_consA (pu_bvar _) (pu_nilA))))))
-- 0 standing, 1 move, 2 doll, 3 rest, 4 stack
def b_moved : SF :=
    seqS (setS 2 (op2 ixW (bvar 1) (un1 negF (cst (.int 1))))) <|
    seqS (setS 3 (ofN (lcN (seqI (var 0)) (nameG 4) (andB (tst (op2 (inW true) (bvar 2) (bvar 4))) (tst (op2 (inW true) (op2 ixW (bvar 1) (cst (.int 1))) (bvar 4)))) (var 4) [4]))) <|
    seqS (ifS (tst (op2 eqW (op2 ixW (bvar 1) (cst (.int 0))) (cst (.str "open")))) (retS (callF tupleF (consA (callF sortedF (consA (op2 addW (bvar 3) (ofN (lstN (consA (callD (f_within) (consA (var 0) (consA (var 2) (nilA)))) (consA (tupF (consA (var 2) (nilA))) (nilA)))))) (nilA))) (nilA)))) (skipS)) <|
    retS (callF tupleF (consA (callF sortedF (consA (op2 addW (bvar 3) (ofN (lstN (consA (op2 addW (callD (f_stack_of) (consA (var 0) (consA (op2 ixW (bvar 1) (cst (.int 1))) (nilA)))) (tupF (consA (var 2) (nilA)))) (nilA))))) (nilA))) (nilA)))
def f_moved : List W → Tape → Option (W × Tape) := fnF 2 5 b_moved
theorem pu_f_moved : PuF f_moved := pu_fn (pu_seqS (pu_setS (pu_op2 (pu_bvar _) (pu_un1 (pu_cst _)))) (pu_seqS (pu_setS (pu_ofN (pu_lcN (pu_seqI (pu_var _)) (pu_andB (pu_tst (pu_op2 (pu_bvar _) (pu_bvar _))) (pu_tst (pu_op2 (pu_op2 (pu_bvar _) (pu_cst _)) (pu_bvar _)))) (pu_var _)))) (pu_seqS (pu_ifS (pu_tst (pu_op2 (pu_op2 (pu_bvar _) (pu_cst _)) (pu_cst _))) (pu_retS (pu_callF (pu_consA (pu_callF (pu_consA (pu_op2 (pu_bvar _) (pu_ofN (pu_lstN (pu_consA (pu_callD (pu_f_within) (pu_consA (pu_var _) (pu_consA (pu_var _) (pu_nilA)))) (pu_consA (pu_tupF (pu_consA (pu_var _) (pu_nilA))) (pu_nilA)))))) (pu_nilA))) (pu_nilA)))) (pu_skipS)) (pu_retS (pu_callF (pu_consA (pu_callF (pu_consA (pu_op2 (pu_bvar _) (pu_ofN (pu_lstN (pu_consA (pu_op2 (pu_callD (pu_f_stack_of) (pu_consA (pu_var _) (pu_consA (pu_op2 (pu_bvar _) (pu_cst _)) (pu_nilA)))) (pu_tupF (pu_consA (pu_var _) (pu_nilA)))) (pu_nilA))))) (pu_nilA))) (pu_nilA)))))))
-- 0 standing, 1 spots, 2 thing, 3 part
def b_is_move : SF :=
    seqS (ifS (orB (notB (tst (un1 (isiW ["tuple"]) (bvar 2)))) (tst (callF anyF (consA (ofN (lcN (seqI (var 2)) (nameG 3) (yesB) (un1 (isiW ["bool"]) (bvar 3)) [3])) (nilA))))) (retS (cst (.bool false))) (skipS)) <|
    retS (op2 (inW false) (bvar 2) (callD (f_moves) (consA (var 0) (consA (var 1) (nilA)))))
def f_is_move : List W → Tape → Option (W × Tape) := fnF 3 4 b_is_move
theorem pu_f_is_move : PuF f_is_move := pu_fn (pu_seqS (pu_ifS (pu_orB (pu_notB (pu_tst (pu_un1 (pu_bvar _)))) (pu_tst (pu_callF (pu_consA (pu_ofN (pu_lcN (pu_seqI (pu_var _)) (pu_yesB) (pu_un1 (pu_bvar _)))) (pu_nilA))))) (pu_retS (pu_cst _)) (pu_skipS)) (pu_retS (pu_op2 (pu_bvar _) (pu_callD (pu_f_moves) (pu_consA (pu_var _) (pu_consA (pu_var _) (pu_nilA)))))))
-- 0 standing, 1 spots, 2 move
def b_behind : SF :=
    seqS (ifS (notB (tst (callD (f_is_move) (consA (var 0) (consA (var 1) (consA (var 2) (nilA))))))) (stuckS) (skipS)) <|
    retS (callD (f_moved) (consA (var 0) (consA (var 2) (nilA))))
def f_behind : List W → Tape → Option (W × Tape) := fnF 3 3 b_behind
theorem pu_f_behind : PuF f_behind := pu_fn (pu_seqS (pu_ifS (pu_notB (pu_tst (pu_callD (pu_f_is_move) (pu_consA (pu_var _) (pu_consA (pu_var _) (pu_consA (pu_var _) (pu_nilA))))))) (pu_stuckS) (pu_skipS)) (pu_retS (pu_callD (pu_f_moved) (pu_consA (pu_var _) (pu_consA (pu_var _) (pu_nilA))))))
-- 0 standing, 1 spots, 2 row, 3 at, 4 move
def b_led : SF :=
    seqS (forS (enumI (consA (var 2) (nilA))) (tupG 2 (consG (nameG 3) (consG (nameG 4) (nilG)))) (seqS (ifS (notB (tst (callD (f_is_move) (consA (var 0) (consA (var 1) (consA (var 4) (nilA))))))) (stuckS) (skipS)) <|
    setS 0 (callD (f_moved) (consA (var 0) (consA (var 4) (nilA)))))) <|
    retS (var 0)
def f_led : List W → Tape → Option (W × Tape) := fnF 3 5 b_led
theorem pu_f_led : PuF f_led := pu_fn (pu_seqS (pu_forS (pu_enum (pu_consA (pu_var _) (pu_nilA))) (pu_seqS (pu_ifS (pu_notB (pu_tst (pu_callD (pu_f_is_move) (pu_consA (pu_var _) (pu_consA (pu_var _) (pu_consA (pu_var _) (pu_nilA))))))) (pu_stuckS) (pu_skipS)) (pu_setS (pu_callD (pu_f_moved) (pu_consA (pu_var _) (pu_consA (pu_var _) (pu_nilA))))))) (pu_retS (pu_var _)))
-- 0 standing, 1 spots, 2 found, 3 tops, 4 doll, 5 into, 6 stack
def b__law_moves : SF :=
    seqS (ownS 2 (lstN (nilA))) <|
    seqS (setS 3 (ofN (lcN (seqI (var 0)) (nameG 6) (yesB) (callF (intsW maxG) (consA (bvar 6) (nilA))) [6]))) <|
    seqS (forS (seqI (var 3)) (nameG 4) (seqS (ifS (andB (tst (op2 neW (callD (f__law_in) (consA (var 0) (consA (var 4) (nilA)))) (tupF (nilA)))) (tst (op2 leW (op2 addW (callF lenF (consA (bvar 0) (nilA))) (cst (.int 1))) (bvar 1)))) (appS 2 (tupF (consA (cst (.str "open")) (consA (var 4) (nilA))))) (skipS)) <|
    forS (seqI (var 3)) (nameG 5) (ifS (andB (tst (op2 gtW (bvar 5) (bvar 4))) (tst (op2 eqW (callD (f__law_in) (consA (var 0) (consA (var 5) (nilA)))) (tupF (nilA))))) (appS 2 (tupF (consA (cst (.str "nest")) (consA (var 4) (consA (var 5) (nilA)))))) (skipS)))) <|
    retS (callF sortedF (consA (bvar 2) (nilA)))
def f__law_moves : List W → Tape → Option (W × Tape) := fnF 2 7 b__law_moves
theorem pu_f__law_moves : PuF f__law_moves := pu_fn (pu_seqS (pu_ownS (pu_lstN (pu_nilA))) (pu_seqS (pu_setS (pu_ofN (pu_lcN (pu_seqI (pu_var _)) (pu_yesB) (pu_callF (pu_consA (pu_bvar _) (pu_nilA)))))) (pu_seqS (pu_forS (pu_seqI (pu_var _)) (pu_seqS (pu_ifS (pu_andB (pu_tst (pu_op2 (pu_callD (pu_f__law_in) (pu_consA (pu_var _) (pu_consA (pu_var _) (pu_nilA)))) (pu_tupF (pu_nilA)))) (pu_tst (pu_op2 (pu_op2 (pu_callF (pu_consA (pu_bvar _) (pu_nilA))) (pu_cst _)) (pu_bvar _)))) (pu_appS (pu_tupF (pu_consA (pu_cst _) (pu_consA (pu_var _) (pu_nilA))))) (pu_skipS)) (pu_forS (pu_seqI (pu_var _)) (pu_ifS (pu_andB (pu_tst (pu_op2 (pu_bvar _) (pu_bvar _))) (pu_tst (pu_op2 (pu_callD (pu_f__law_in) (pu_consA (pu_var _) (pu_consA (pu_var _) (pu_nilA)))) (pu_tupF (pu_nilA))))) (pu_appS (pu_tupF (pu_consA (pu_cst _) (pu_consA (pu_var _) (pu_consA (pu_var _) (pu_nilA)))))) (pu_skipS))))) (pu_retS (pu_callF (pu_consA (pu_bvar _) (pu_nilA)))))))
-- 0 standing, 1 move, 2 found, 3 stack
def b__law_moved : SF :=
    seqS (ownS 2 (lstN (nilA))) <|
    seqS (forS (seqI (var 0)) (nameG 3) (ifS (andB (tst (op2 eqW (op2 ixW (bvar 1) (cst (.int 0))) (cst (.str "open")))) (tst (op2 (inW false) (op2 ixW (bvar 1) (cst (.int 1))) (bvar 3)))) (ownS 2 (addN (bvar 2) (ofN (lstN (consA (slF (bvar 3) (noO) (someO (un1 negF (cst (.int 1))))) (consA (tupF (consA (op2 ixW (bvar 1) (cst (.int 1))) (nilA))) (nilA))))))) (ifS (andB (tst (op2 eqW (op2 ixW (bvar 1) (cst (.int 0))) (cst (.str "nest")))) (tst (op2 (inW false) (op2 ixW (bvar 1) (cst (.int 1))) (bvar 3)))) (appS 2 (op2 addW (bvar 3) (tupF (consA (op2 ixW (bvar 1) (cst (.int 2))) (nilA))))) (ifS (orB (tst (op2 eqW (op2 ixW (bvar 1) (cst (.int 0))) (cst (.str "open")))) (tst (op2 neW (bvar 3) (tupF (consA (op2 ixW (bvar 1) (cst (.int 2))) (nilA)))))) (appS 2 (var 3)) (skipS))))) <|
    retS (callF tupleF (consA (callF sortedF (consA (bvar 2) (nilA))) (nilA)))
def f__law_moved : List W → Tape → Option (W × Tape) := fnF 2 4 b__law_moved
theorem pu_f__law_moved : PuF f__law_moved := pu_fn (pu_seqS (pu_ownS (pu_lstN (pu_nilA))) (pu_seqS (pu_forS (pu_seqI (pu_var _)) (pu_ifS (pu_andB (pu_tst (pu_op2 (pu_op2 (pu_bvar _) (pu_cst _)) (pu_cst _))) (pu_tst (pu_op2 (pu_op2 (pu_bvar _) (pu_cst _)) (pu_bvar _)))) (pu_ownS (pu_addN (pu_bvar _) (pu_ofN (pu_lstN (pu_consA (pu_slF (pu_bvar _) (pu_noO) (pu_someO (pu_un1 (pu_cst _)))) (pu_consA (pu_tupF (pu_consA (pu_op2 (pu_bvar _) (pu_cst _)) (pu_nilA))) (pu_nilA))))))) (pu_ifS (pu_andB (pu_tst (pu_op2 (pu_op2 (pu_bvar _) (pu_cst _)) (pu_cst _))) (pu_tst (pu_op2 (pu_op2 (pu_bvar _) (pu_cst _)) (pu_bvar _)))) (pu_appS (pu_op2 (pu_bvar _) (pu_tupF (pu_consA (pu_op2 (pu_bvar _) (pu_cst _)) (pu_nilA))))) (pu_ifS (pu_orB (pu_tst (pu_op2 (pu_op2 (pu_bvar _) (pu_cst _)) (pu_cst _))) (pu_tst (pu_op2 (pu_bvar _) (pu_tupF (pu_consA (pu_op2 (pu_bvar _) (pu_cst _)) (pu_nilA)))))) (pu_appS (pu_var _)) (pu_skipS))))) (pu_retS (pu_callF (pu_consA (pu_callF (pu_consA (pu_bvar _) (pu_nilA))) (pu_nilA))))))
-- 0 standing, 1 spots, 2 row, 3 at, 4 move, 5 part
def b__law_led : SF :=
    seqS (forS (enumI (consA (var 2) (nilA))) (tupG 2 (consG (nameG 3) (consG (nameG 4) (nilG)))) (seqS (ifS (orB (notB (tst (un1 (isiW ["tuple"]) (bvar 4)))) (tst (op2 neW (ofN (lcN (seqI (var 4)) (nameG 5) (tst (un1 (isiW ["bool"]) (bvar 5))) (cst (.int 1)) [5])) (ofN (lstN (nilA)))))) (retS (ofN (lstN (consA (cst (.str "move")) (consA (var 3) (nilA)))))) (skipS)) <|
    seqS (ifS (tst (op2 (inW true) (bvar 4) (callD (f__law_moves) (consA (var 0) (consA (var 1) (nilA)))))) (retS (ofN (lstN (consA (cst (.str "move")) (consA (var 3) (nilA)))))) (skipS)) <|
    setS 0 (callD (f__law_moved) (consA (var 0) (consA (var 4) (nilA)))))) <|
    retS (var 0)
def f__law_led : List W → Tape → Option (W × Tape) := fnF 3 6 b__law_led
theorem pu_f__law_led : PuF f__law_led := pu_fn (pu_seqS (pu_forS (pu_enum (pu_consA (pu_var _) (pu_nilA))) (pu_seqS (pu_ifS (pu_orB (pu_notB (pu_tst (pu_un1 (pu_bvar _)))) (pu_tst (pu_op2 (pu_ofN (pu_lcN (pu_seqI (pu_var _)) (pu_tst (pu_un1 (pu_bvar _))) (pu_cst _))) (pu_ofN (pu_lstN (pu_nilA)))))) (pu_retS (pu_ofN (pu_lstN (pu_consA (pu_cst _) (pu_consA (pu_var _) (pu_nilA)))))) (pu_skipS)) (pu_seqS (pu_ifS (pu_tst (pu_op2 (pu_bvar _) (pu_callD (pu_f__law_moves) (pu_consA (pu_var _) (pu_consA (pu_var _) (pu_nilA)))))) (pu_retS (pu_ofN (pu_lstN (pu_consA (pu_cst _) (pu_consA (pu_var _) (pu_nilA)))))) (pu_skipS)) (pu_setS (pu_callD (pu_f__law_moved) (pu_consA (pu_var _) (pu_consA (pu_var _) (pu_nilA)))))))) (pu_retS (pu_var _)))
-- 0 move, 1 prices
def b_price_of : SF :=
    retS (op2 ixW (bvar 1) (op2 subW (op2 ixW (bvar 0) (un1 negF (cst (.int 1)))) (cst (.int 1))))
def f_price_of : List W → Tape → Option (W × Tape) := fnF 2 2 b_price_of
theorem pu_f_price_of : PuF f_price_of := pu_fn (pu_retS (pu_op2 (pu_bvar _) (pu_op2 (pu_op2 (pu_bvar _) (pu_un1 (pu_cst _))) (pu_cst _))))
-- 0 row, 1 prices, 2 move
def b_toil_of : SF :=
    retS (callF (intsW sumG) (consA (ofN (lcN (seqI (var 0)) (nameG 2) (yesB) (callD (f_price_of) (consA (var 2) (consA (var 1) (nilA)))) [2])) (nilA)))
def f_toil_of : List W → Tape → Option (W × Tape) := fnF 2 3 b_toil_of
theorem pu_f_toil_of : PuF f_toil_of := pu_fn (pu_retS (pu_callF (pu_consA (pu_ofN (pu_lcN (pu_seqI (pu_var _)) (pu_yesB) (pu_callD (pu_f_price_of) (pu_consA (pu_var _) (pu_consA (pu_var _) (pu_nilA)))))) (pu_nilA))))
-- 0 tape, 1 many, 2 top, 3 k
def b__law_prices : SF :=
    seqS (setS 2 (op2 ixW (ofN (lstN (consA (cst (.int 1)) (consA (cst (.int 2)) (consA (cst (.int 9)) (consA (cst (.int 100)) (nilA))))))) (callD (f__law_draw) (consA (var 0) (consA (cst (.int 4)) (nilA)))))) <|
    retS (callF tupleF (consA (ofN (lcN (rng1I (consA (bvar 1) (nilA))) (nameG 3) (yesB) (op2 addW (cst (.int 1)) (callD (f__law_draw) (consA (var 0) (consA (var 2) (nilA))))) [3])) (nilA)))
def f__law_prices : List W → Tape → Option (W × Tape) := fnF 2 4 b__law_prices
-- 0 move, 1 standing
def b__law_undone : SF :=
    seqS (ifS (tst (op2 eqW (op2 ixW (bvar 0) (cst (.int 0))) (cst (.str "nest")))) (retS (tupF (consA (cst (.str "open")) (consA (op2 ixW (bvar 0) (cst (.int 2))) (nilA))))) (skipS)) <|
    retS (tupF (consA (cst (.str "nest")) (consA (callF (intsW maxG) (consA (callD (f_within) (consA (var 1) (consA (op2 ixW (bvar 0) (cst (.int 1))) (nilA)))) (nilA))) (consA (op2 ixW (bvar 0) (cst (.int 1))) (nilA)))))
def f__law_undone : List W → Tape → Option (W × Tape) := fnF 2 2 b__law_undone
theorem pu_f__law_undone : PuF f__law_undone := pu_fn (pu_seqS (pu_ifS (pu_tst (pu_op2 (pu_op2 (pu_bvar _) (pu_cst _)) (pu_cst _))) (pu_retS (pu_tupF (pu_consA (pu_cst _) (pu_consA (pu_op2 (pu_bvar _) (pu_cst _)) (pu_nilA))))) (pu_skipS)) (pu_retS (pu_tupF (pu_consA (pu_cst _) (pu_consA (pu_callF (pu_consA (pu_callD (pu_f_within) (pu_consA (pu_var _) (pu_consA (pu_op2 (pu_bvar _) (pu_cst _)) (pu_nilA)))) (pu_nilA))) (pu_consA (pu_op2 (pu_bvar _) (pu_cst _)) (pu_nilA)))))))
-- 0 standing, 1 other, 2 doll
def b_unlike : SF :=
    retS (ofN (lcN (seqI (callD (f_dolls) (consA (var 0) (nilA)))) (nameG 2) (tst (op2 neW (callD (f_within) (consA (var 0) (consA (var 2) (nilA)))) (callD (f_within) (consA (var 1) (consA (var 2) (nilA)))))) (var 2) [2]))
def f_unlike : List W → Tape → Option (W × Tape) := fnF 2 3 b_unlike
theorem pu_f_unlike : PuF f_unlike := pu_fn (pu_retS (pu_ofN (pu_lcN (pu_seqI (pu_callD (pu_f_dolls) (pu_consA (pu_var _) (pu_nilA)))) (pu_tst (pu_op2 (pu_callD (pu_f_within) (pu_consA (pu_var _) (pu_consA (pu_var _) (pu_nilA)))) (pu_callD (pu_f_within) (pu_consA (pu_var _) (pu_consA (pu_var _) (pu_nilA)))))) (pu_var _))))
-- 0 standing, 1 other, 2 prices, 3 found, 4 doll, 5 empty
def b_floor : SF :=
    seqS (setS 3 (cst (.int 0))) <|
    seqS (forS (seqI (callD (f_unlike) (consA (var 0) (consA (var 1) (nilA))))) (nameG 4) (seqS (setS 5 (orE (op2 eqW (callD (f_within) (consA (var 0) (consA (var 4) (nilA)))) (tupF (nilA))) (op2 eqW (callD (f_within) (consA (var 1) (consA (var 4) (nilA)))) (tupF (nilA))))) <|
    augS 3 (op2 mulW (op2 ixW (bvar 2) (op2 subW (bvar 4) (cst (.int 1)))) (ifE (tst (var 5)) (cst (.int 1)) (cst (.int 2)))))) <|
    retS (var 3)
def f_floor : List W → Tape → Option (W × Tape) := fnF 3 6 b_floor
theorem pu_f_floor : PuF f_floor := pu_fn (pu_seqS (pu_setS (pu_cst _)) (pu_seqS (pu_forS (pu_seqI (pu_callD (pu_f_unlike) (pu_consA (pu_var _) (pu_consA (pu_var _) (pu_nilA))))) (pu_seqS (pu_setS (pu_orE (pu_op2 (pu_callD (pu_f_within) (pu_consA (pu_var _) (pu_consA (pu_var _) (pu_nilA)))) (pu_tupF (pu_nilA))) (pu_op2 (pu_callD (pu_f_within) (pu_consA (pu_var _) (pu_consA (pu_var _) (pu_nilA)))) (pu_tupF (pu_nilA))))) (pu_augS (pu_op2 (pu_op2 (pu_bvar _) (pu_op2 (pu_bvar _) (pu_cst _))) (pu_ifE (pu_tst (pu_var _)) (pu_cst _) (pu_cst _)))))) (pu_retS (pu_var _))))
-- 0 other, 1 spots, 2 prices, 3 found, 4 open_ones, 5 toil, 6 many, 7 here, 8 move, 9 there, 10 pair, 11 standing
def b_far : SF :=
    seqS (ownKS 3 (dnewK)) <|
    seqS (ownKS 4 (dispK (var 0) (tupF (consA (cst (.int 0)) (consA (cst (.int 0)) (nilA)))))) <|
    seqS (whileS (tst (op2 gtW (callF lenK (consA (bvar 4) (nilA))) (cst (.int 0)))) (seqS (unpS (callF minF (consA (ofN (lcN (itemsI (var 4)) (tupG 2 (consG (nameG 11) (consG (nameG 10) (nilG)))) (yesB) (tupF (consA (var 10) (consA (var 11) (nilA)))) [11, 10])) (nilA))) (tupG 2 (consG (tupG 2 (consG (nameG 5) (consG (nameG 6) (nilG)))) (consG (nameG 7) (nilG))))) <|
    seqS (setDS 3 (tupF (consA (var 5) (consA (var 6) (nilA)))) (bvar 7)) <|
    seqS (ownKS 4 (dcK (itemsI (var 4)) (tupG 2 (consG (nameG 11) (consG (nameG 10) (nilG)))) (tst (op2 neW (bvar 11) (bvar 7))) (var 11) (var 10) [11, 10])) <|
    forS (seqI (callD (f_moves) (consA (var 7) (consA (var 1) (nilA))))) (nameG 8) (seqS (setS 9 (callD (f_moved) (consA (var 7) (consA (var 8) (nilA))))) <|
    seqS (setS 10 (tupF (consA (op2 addW (bvar 5) (callD (f_price_of) (consA (var 8) (consA (var 2) (nilA))))) (consA (op2 addW (bvar 6) (cst (.int 1))) (nilA))))) <|
    ifS (andB (tst (op2 (inD true) (bvar 9) (bvar 3))) (tst (op2 ltW (bvar 10) (getE (bvar 4) (bvar 9) (tupF (consA (op2 addW (op2 ixW (bvar 10) (cst (.int 0))) (cst (.int 1))) (consA (cst (.int 0)) (nilA)))))))) (setDS 4 (var 10) (bvar 9)) (skipS))) 5000) <|
    retS (var 3)
def f_far : List W → Tape → Option (W × Tape) := fnF 3 12 b_far
-- 0 standing, 1 other, 2 spots, 3 prices, 4 known, 5 row, 6 toil, 7 many, 8 move, 9 there
def b_least_row : SF :=
    seqS (setS 4 (callD (f_far) (consA (var 1) (consA (var 2) (consA (var 3) (nilA)))))) <|
    seqS (ifS (tst (op2 (inD true) (bvar 0) (bvar 4))) (retS (cst .none)) (skipS)) <|
    seqS (ownS 5 (lstN (nilA))) <|
    seqS (whileS (tst (op2 neW (bvar 0) (bvar 1))) (seqS (unpS (op2 ixD (bvar 4) (bvar 0)) (tupG 2 (consG (nameG 6) (consG (nameG 7) (nilG))))) <|
    seqS (forS (seqI (callD (f_moves) (consA (var 0) (consA (var 2) (nilA))))) (nameG 8) (seqS (setS 9 (callD (f_moved) (consA (var 0) (consA (var 8) (nilA))))) <|
    ifS (tst (op2 eqW (getE (bvar 4) (bvar 9) (cst .none)) (tupF (consA (op2 subW (bvar 6) (callD (f_price_of) (consA (var 8) (consA (var 3) (nilA))))) (consA (op2 subW (bvar 7) (cst (.int 1))) (nilA)))))) (brkS) (skipS))) <|
    seqS (appS 5 (var 8)) <|
    setS 0 (var 9)) 5000) <|
    retS (var 5)
def f_least_row : List W → Tape → Option (W × Tape) := fnF 4 10 b_least_row
-- 0 tape, 1 most, 2 many
def b__law_pair : SF :=
    seqS (setS 2 (op2 addW (cst (.int 1)) (callD (f__law_draw) (consA (var 0) (consA (var 1) (nilA)))))) <|
    retS (tupF (consA (callD (f__law_standing) (consA (var 0) (consA (var 2) (nilA)))) (consA (callD (f__law_standing) (consA (var 0) (consA (var 2) (nilA)))) (consA (var 2) (nilA)))))
def f__law_pair : List W → Tape → Option (W × Tape) := fnF 2 3 b__law_pair
-- 0 move, 1 prices
def b__law_price : SF :=
    retS (op2 ixW (bvar 1) (op2 subW (op2 ixW (bvar 0) (op2 subW (callF lenF (consA (bvar 0) (nilA))) (cst (.int 1)))) (cst (.int 1))))
def f__law_price : List W → Tape → Option (W × Tape) := fnF 2 2 b__law_price
theorem pu_f__law_price : PuF f__law_price := pu_fn (pu_retS (pu_op2 (pu_bvar _) (pu_op2 (pu_op2 (pu_bvar _) (pu_op2 (pu_callF (pu_consA (pu_bvar _) (pu_nilA))) (pu_cst _))) (pu_cst _))))
-- 0 many, 1 goal, 2 spots, 3 prices, 4 some, 5 steps, 6 standing, 7 move, 8 found, 9 going, 10 here, 11 there, 12 price, 13 pair
def b__law_far : SF :=
    seqS (setS 4 (ofN (lcN (seqI (callD (f__law_every) (consA (var 0) (nilA)))) (nameG 6) (tst (op2 leW (callF lenF (consA (bvar 6) (nilA))) (bvar 2))) (var 6) [6]))) <|
    seqS (ownS 5 (lstN (nilA))) <|
    seqS (forS (seqI (var 4)) (nameG 6) (forS (seqI (callD (f__law_moves) (consA (var 6) (consA (var 2) (nilA))))) (nameG 7) (appS 5 (tupF (consA (var 6) (consA (callD (f__law_moved) (consA (var 6) (consA (var 7) (nilA)))) (consA (callD (f__law_price) (consA (var 7) (consA (var 3) (nilA)))) (nilA)))))))) <|
    seqS (ownKS 8 (dispK (var 1) (tupF (consA (cst (.int 0)) (consA (cst (.int 0)) (nilA)))))) <|
    seqS (setS 9 (cst (.bool true))) <|
    seqS (whileS (tst (var 9)) (seqS (setS 9 (cst (.bool false))) <|
    forS (seqI (var 5)) (tupG 3 (consG (nameG 10) (consG (nameG 11) (consG (nameG 12) (nilG))))) (ifS (tst (op2 (inD false) (bvar 11) (bvar 8))) (seqS (setS 13 (tupF (consA (op2 addW (op2 ixW (op2 ixD (bvar 8) (bvar 11)) (cst (.int 0))) (bvar 12)) (consA (op2 addW (op2 ixW (op2 ixD (bvar 8) (bvar 11)) (cst (.int 1))) (cst (.int 1))) (nilA))))) <|
    ifS (orB (tst (op2 (inD true) (bvar 10) (bvar 8))) (tst (op2 ltW (bvar 13) (op2 ixD (bvar 8) (bvar 10))))) (seqS (setDS 8 (var 13) (bvar 10)) <|
    setS 9 (cst (.bool true))) (skipS)) (skipS))) 5000) <|
    retS (var 8)
def f__law_far : List W → Tape → Option (W × Tape) := fnF 4 14 b__law_far
-- 0 other, 1 spots, 2 standing
def b_all_standings : SF :=
    retS (ofN (lcN (seqI (callD (f_standings) (consA (callF lenF (consA (callD (f_dolls) (consA (var 0) (nilA))) (nilA))) (nilA)))) (nameG 2) (tst (op2 leW (callF lenF (consA (bvar 2) (nilA))) (bvar 1))) (var 2) [2]))
def f_all_standings : List W → Tape → Option (W × Tape) := fnF 2 3 b_all_standings
theorem pu_f_all_standings : PuF f_all_standings := pu_fn (pu_retS (pu_ofN (pu_lcN (pu_seqI (pu_callD (pu_f_standings) (pu_consA (pu_callF (pu_consA (pu_callD (pu_f_dolls) (pu_consA (pu_var _) (pu_nilA))) (pu_nilA))) (pu_nilA)))) (pu_tst (pu_op2 (pu_callF (pu_consA (pu_bvar _) (pu_nilA))) (pu_bvar _))) (pu_var _))))
-- 0 other, 1 spots, 2 prices, 3 known, 4 some, 5 standing
def b_toil_paper : SF :=
    seqS (setS 3 (callD (f_far) (consA (var 0) (consA (var 1) (consA (var 2) (nilA)))))) <|
    seqS (setS 4 (callD (f_all_standings) (consA (var 0) (consA (var 1) (nilA))))) <|
    retS (callF tupleF (consA (ofN (lcN (seqI (var 4)) (nameG 5) (yesB) (tupF (consA (var 5) (consA (op2 ixW (getE (bvar 3) (bvar 5) (tupF (consA (cst .none) (consA (cst (.int 0)) (nilA))))) (cst (.int 0))) (nilA)))) [5])) (nilA)))
def f_toil_paper : List W → Tape → Option (W × Tape) := fnF 3 6 b_toil_paper
-- 0 thing
def b_is_number : SF :=
    retS (orE (op2 (isNW false) (bvar 0) (cst .none)) (andE (un1 (isiW ["int"]) (bvar 0)) (notE (un1 (isiW ["bool"]) (bvar 0)))))
def f_is_number : List W → Tape → Option (W × Tape) := fnF 1 1 b_is_number
theorem pu_f_is_number : PuF f_is_number := pu_fn (pu_retS (pu_orE (pu_op2 (pu_bvar _) (pu_cst _)) (pu_andE (pu_un1 (pu_bvar _)) (pu_notE (pu_un1 (pu_bvar _))))))
-- 0 thing
def b_is_entry : SF :=
    retS (andE (un1 (isiW ["tuple"]) (bvar 0)) (andE (op2 eqW (callF lenF (consA (bvar 0) (nilA))) (cst (.int 2))) (andE (callD (f_is_standing) (consA (op2 ixW (bvar 0) (cst (.int 0))) (nilA))) (callD (f_is_number) (consA (op2 ixW (bvar 0) (cst (.int 1))) (nilA))))))
def f_is_entry : List W → Tape → Option (W × Tape) := fnF 1 1 b_is_entry
theorem pu_f_is_entry : PuF f_is_entry := pu_fn (pu_retS (pu_andE (pu_un1 (pu_bvar _)) (pu_andE (pu_op2 (pu_callF (pu_consA (pu_bvar _) (pu_nilA))) (pu_cst _)) (pu_andE (pu_callD (pu_f_is_standing) (pu_consA (pu_op2 (pu_bvar _) (pu_cst _)) (pu_nilA))) (pu_callD (pu_f_is_number) (pu_consA (pu_op2 (pu_bvar _) (pu_cst _)) (pu_nilA)))))))
-- 0 told, 1 standing, 2 spots, 3 prices, 4 number, 5 move, 6 later
def b_falls : SF :=
    seqS (setS 4 (op2 ixD (bvar 0) (bvar 1))) <|
    seqS (forS (seqI (callD (f_moves) (consA (var 1) (consA (var 2) (nilA))))) (nameG 5) (seqS (setS 6 (op2 ixD (bvar 0) (callD (f_moved) (consA (var 1) (consA (var 5) (nilA)))))) <|
    ifS (andB (tst (op2 (isNW true) (bvar 6) (cst .none))) (orB (tst (op2 (isNW false) (bvar 4) (cst .none))) (tst (op2 gtW (bvar 4) (op2 addW (callD (f_price_of) (consA (var 5) (consA (var 3) (nilA)))) (bvar 6)))))) (retS (cst (.bool false))) (skipS))) <|
    retS (cst (.bool true))
def f_falls : List W → Tape → Option (W × Tape) := fnF 4 7 b_falls
theorem pu_f_falls : PuF f_falls := pu_fn (pu_seqS (pu_setS (pu_op2 (pu_bvar _) (pu_bvar _))) (pu_seqS (pu_forS (pu_seqI (pu_callD (pu_f_moves) (pu_consA (pu_var _) (pu_consA (pu_var _) (pu_nilA))))) (pu_seqS (pu_setS (pu_op2 (pu_bvar _) (pu_callD (pu_f_moved) (pu_consA (pu_var _) (pu_consA (pu_var _) (pu_nilA)))))) (pu_ifS (pu_andB (pu_tst (pu_op2 (pu_bvar _) (pu_cst _))) (pu_orB (pu_tst (pu_op2 (pu_bvar _) (pu_cst _))) (pu_tst (pu_op2 (pu_bvar _) (pu_op2 (pu_callD (pu_f_price_of) (pu_consA (pu_var _) (pu_consA (pu_var _) (pu_nilA)))) (pu_bvar _)))))) (pu_retS (pu_cst _)) (pu_skipS)))) (pu_retS (pu_cst _))))
-- 0 one, 1 other, 2 spots, 3 prices, 4 row
def b__law_toil : SF :=
    seqS (setS 4 (callD (f_least_row) (consA (var 0) (consA (var 1) (consA (var 2) (consA (var 3) (nilA))))))) <|
    retS (ifE (tst (op2 (isNW false) (bvar 4) (cst .none))) (cst .none) (callD (f_toil_of) (consA (var 4) (consA (var 3) (nilA)))))
def f__law_toil : List W → Tape → Option (W × Tape) := fnF 4 5 b__law_toil
-- 0 standing, 1 spots, 2 dearest, 3 prices, 4 found, 5 left, 6 here, 7 move, 8 there
def b_reached : SF :=
    seqS (ownKS 4 (dispK (var 0) (cst (.bool true)))) <|
    seqS (ownS 5 (lstN (consA (var 0) (nilA)))) <|
    seqS (whileS (tst (op2 neW (bvar 5) (ofN (lstN (nilA))))) (seqS (popS 6 5) <|
    forS (seqI (callD (f_moves) (consA (var 6) (consA (var 1) (nilA))))) (nameG 7) (seqS (setS 8 (callD (f_moved) (consA (var 6) (consA (var 7) (nilA))))) <|
    ifS (andB (tst (op2 leW (callD (f_price_of) (consA (var 7) (consA (var 3) (nilA)))) (bvar 2))) (tst (op2 (inD true) (bvar 8) (bvar 4)))) (seqS (setDS 4 (cst (.bool true)) (bvar 8)) <|
    appS 5 (var 8)) (skipS))) 5000) <|
    retS (var 4)
def f_reached : List W → Tape → Option (W × Tape) := fnF 4 9 b_reached
-- 0 standing
def b_any_price : SF :=
    retS (op2 repW (tupF (consA (cst (.int 0)) (nilA))) (callF lenF (consA (callD (f_dolls) (consA (var 0) (nilA))) (nilA))))
def f_any_price : List W → Tape → Option (W × Tape) := fnF 1 1 b_any_price
theorem pu_f_any_price : PuF f_any_price := pu_fn (pu_retS (pu_op2 (pu_tupF (pu_consA (pu_cst _) (pu_nilA))) (pu_callF (pu_consA (pu_callD (pu_f_dolls) (pu_consA (pu_var _) (pu_nilA))) (pu_nilA)))))
-- 0 standing, 1 spots
def b_comes_to : SF :=
    retS (callF sortedK (consA (callD (f_reached) (consA (var 0) (consA (var 1) (consA (cst (.int 0)) (consA (callD (f_any_price) (consA (var 0) (nilA))) (nilA)))))) (nilA)))
def f_comes_to : List W → Tape → Option (W × Tape) := fnF 2 2 b_comes_to
-- 0 standing, 1 other, 2 spots
def b_fewest_spots : SF :=
    seqS (setS 2 (callF max2F (consA (callF lenF (consA (bvar 0) (nilA))) (consA (callF lenF (consA (bvar 1) (nilA))) (nilA))))) <|
    seqS (whileS (tst (op2 (inW true) (bvar 1) (callD (f_comes_to) (consA (var 0) (consA (var 2) (nilA)))))) (augS 2 (cst (.int 1))) 5000) <|
    retS (var 2)
def f_fewest_spots : List W → Tape → Option (W × Tape) := fnF 2 3 b_fewest_spots
-- 0 standing, 1 spots, 2 found, 3 left, 4 here, 5 move, 6 there
def b__law_comes : SF :=
    seqS (parKLS 2 3 (dispK (var 0) (cst (.bool true))) (lstN (consA (var 0) (nilA)))) <|
    seqS (whileS (tst (op2 neW (bvar 3) (ofN (lstN (nilA))))) (seqS (popS 4 3) <|
    forS (seqI (callD (f__law_moves) (consA (var 4) (consA (var 1) (nilA))))) (nameG 5) (seqS (setS 6 (callD (f__law_moved) (consA (var 4) (consA (var 5) (nilA))))) <|
    ifS (tst (op2 (inD true) (bvar 6) (bvar 2))) (seqS (setDS 2 (cst (.bool true)) (bvar 6)) <|
    appS 3 (var 6)) (skipS))) 5000) <|
    retS (callF sortedK (consA (bvar 2) (nilA)))
def f__law_comes : List W → Tape → Option (W × Tape) := fnF 2 7 b__law_comes
-- 0 standing, 1 other, 2 spots, 3 found
def b_fence : SF :=
    seqS (ifS (tst (op2 gtW (callF lenF (consA (bvar 0) (nilA))) (bvar 2))) (retS (cst .none)) (skipS)) <|
    seqS (setS 3 (callD (f_comes_to) (consA (var 0) (consA (var 2) (nilA))))) <|
    retS (ifE (tst (op2 (inW true) (bvar 1) (bvar 3))) (callF tupleF (consA (bvar 3) (nilA))) (cst .none))
def f_fence : List W → Tape → Option (W × Tape) := fnF 3 4 b_fence
-- 0 standing, 1 other, 2 spots, 3 thing, 4 part, 5 move
def b_is_fence : SF :=
    seqS (ifS (orB (notB (tst (un1 (isiW ["tuple"]) (bvar 3)))) (orB (notB (tst (callF allF (consA (ofN (lcN (seqI (var 3)) (nameG 4) (yesB) (callD (f_is_standing) (consA (var 4) (nilA))) [4])) (nilA))))) (notB (tst (callD (f_rise) (consA (var 3) (nilA))))))) (retS (cst (.bool false))) (skipS)) <|
    seqS (ifS (orB (tst (op2 (inW true) (bvar 0) (bvar 3))) (orB (tst (op2 (inW false) (bvar 1) (bvar 3))) (notB (tst (callF allF (consA (ofN (lcN (seqI (var 3)) (nameG 4) (yesB) (op2 leW (callF lenF (consA (bvar 4) (nilA))) (bvar 2)) [4])) (nilA))))))) (retS (cst (.bool false))) (skipS)) <|
    seqS (ifS (tst (callF anyF (consA (ofN (lcN (seqI (var 3)) (nameG 4) (yesB) (op2 neW (callF lenF (consA (callD (f_dolls) (consA (var 4) (nilA))) (nilA))) (callF lenF (consA (callD (f_dolls) (consA (var 0) (nilA))) (nilA)))) [4])) (nilA)))) (retS (cst (.bool false))) (skipS)) <|
    retS (callF allF (consA (ofN (lc2N (seqI (var 3)) (nameG 4) (seqI (callD (f_moves) (consA (var 4) (consA (var 2) (nilA))))) (nameG 5) (yesB) (op2 (inW false) (callD (f_moved) (consA (var 4) (consA (var 5) (nilA)))) (bvar 3)) [4, 5] [5])) (nilA)))
def f_is_fence : List W → Tape → Option (W × Tape) := fnF 4 6 b_is_fence
theorem pu_f_is_fence : PuF f_is_fence := pu_fn (pu_seqS (pu_ifS (pu_orB (pu_notB (pu_tst (pu_un1 (pu_bvar _)))) (pu_orB (pu_notB (pu_tst (pu_callF (pu_consA (pu_ofN (pu_lcN (pu_seqI (pu_var _)) (pu_yesB) (pu_callD (pu_f_is_standing) (pu_consA (pu_var _) (pu_nilA))))) (pu_nilA))))) (pu_notB (pu_tst (pu_callD (pu_f_rise) (pu_consA (pu_var _) (pu_nilA))))))) (pu_retS (pu_cst _)) (pu_skipS)) (pu_seqS (pu_ifS (pu_orB (pu_tst (pu_op2 (pu_bvar _) (pu_bvar _))) (pu_orB (pu_tst (pu_op2 (pu_bvar _) (pu_bvar _))) (pu_notB (pu_tst (pu_callF (pu_consA (pu_ofN (pu_lcN (pu_seqI (pu_var _)) (pu_yesB) (pu_op2 (pu_callF (pu_consA (pu_bvar _) (pu_nilA))) (pu_bvar _)))) (pu_nilA))))))) (pu_retS (pu_cst _)) (pu_skipS)) (pu_seqS (pu_ifS (pu_tst (pu_callF (pu_consA (pu_ofN (pu_lcN (pu_seqI (pu_var _)) (pu_yesB) (pu_op2 (pu_callF (pu_consA (pu_callD (pu_f_dolls) (pu_consA (pu_var _) (pu_nilA))) (pu_nilA))) (pu_callF (pu_consA (pu_callD (pu_f_dolls) (pu_consA (pu_var _) (pu_nilA))) (pu_nilA)))))) (pu_nilA)))) (pu_retS (pu_cst _)) (pu_skipS)) (pu_retS (pu_callF (pu_consA (pu_ofN (pu_lc2N (pu_seqI (pu_var _)) (pu_seqI (pu_callD (pu_f_moves) (pu_consA (pu_var _) (pu_consA (pu_var _) (pu_nilA))))) (pu_yesB) (pu_op2 (pu_callD (pu_f_moved) (pu_consA (pu_var _) (pu_consA (pu_var _) (pu_nilA)))) (pu_bvar _)))) (pu_nilA)))))))
-- 0 one, 1 other, 2 spots, 3 every, 4 item, 5 standing, 6 doll, 7 move, 8 stack
def b__law_is_fence : SF :=
    seqS (ifS (notB (tst (un1 (isiW ["tuple"]) (bvar 4)))) (retS (cst (.bool false))) (skipS)) <|
    seqS (forS (seqI (var 4)) (nameG 5) (seqS (ifS (orB (notB (tst (un1 (isiW ["tuple"]) (bvar 5)))) (orB (tst (op2 (inW true) (bvar 5) (bvar 3))) (tst (op2 gtW (callF lenF (consA (bvar 5) (nilA))) (bvar 2))))) (retS (cst (.bool false))) (skipS)) <|
    seqS (ifS (tst (op2 neW (ofN (lcN (seqI (callF sumLF (consA (ofN (lcN (seqI (var 5)) (nameG 8) (yesB) (ofN (listN (consA (bvar 8) (nilA)))) [8])) (consA (ofN (lstN (nilA))) (nilA))))) (nameG 6) (tst (un1 (isiW ["bool"]) (bvar 6))) (cst (.int 1)) [6])) (ofN (lstN (nilA))))) (retS (cst (.bool false))) (skipS)) <|
    ifS (tst (op2 neW (ofN (lcN (seqI (callD (f__law_moves) (consA (var 5) (consA (var 2) (nilA))))) (nameG 7) (tst (op2 (inW true) (callD (f__law_moved) (consA (var 5) (consA (var 7) (nilA)))) (bvar 4))) (var 7) [7])) (ofN (lstN (nilA))))) (retS (cst (.bool false))) (skipS))) <|
    retS (andE (op2 (inW false) (bvar 0) (bvar 4)) (andE (op2 (inW true) (bvar 1) (bvar 4)) (callD (f__law_rises) (consA (var 4) (nilA)))))
def f__law_is_fence : List W → Tape → Option (W × Tape) := fnF 5 9 b__law_is_fence
theorem pu_f__law_is_fence : PuF f__law_is_fence := pu_fn (pu_seqS (pu_ifS (pu_notB (pu_tst (pu_un1 (pu_bvar _)))) (pu_retS (pu_cst _)) (pu_skipS)) (pu_seqS (pu_forS (pu_seqI (pu_var _)) (pu_seqS (pu_ifS (pu_orB (pu_notB (pu_tst (pu_un1 (pu_bvar _)))) (pu_orB (pu_tst (pu_op2 (pu_bvar _) (pu_bvar _))) (pu_tst (pu_op2 (pu_callF (pu_consA (pu_bvar _) (pu_nilA))) (pu_bvar _))))) (pu_retS (pu_cst _)) (pu_skipS)) (pu_seqS (pu_ifS (pu_tst (pu_op2 (pu_ofN (pu_lcN (pu_seqI (pu_callF (pu_consA (pu_ofN (pu_lcN (pu_seqI (pu_var _)) (pu_yesB) (pu_ofN (pu_listN (pu_consA (pu_bvar _) (pu_nilA)))))) (pu_consA (pu_ofN (pu_lstN (pu_nilA))) (pu_nilA))))) (pu_tst (pu_un1 (pu_bvar _))) (pu_cst _))) (pu_ofN (pu_lstN (pu_nilA))))) (pu_retS (pu_cst _)) (pu_skipS)) (pu_ifS (pu_tst (pu_op2 (pu_ofN (pu_lcN (pu_seqI (pu_callD (pu_f__law_moves) (pu_consA (pu_var _) (pu_consA (pu_var _) (pu_nilA))))) (pu_tst (pu_op2 (pu_callD (pu_f__law_moved) (pu_consA (pu_var _) (pu_consA (pu_var _) (pu_nilA)))) (pu_bvar _))) (pu_var _))) (pu_ofN (pu_lstN (pu_nilA))))) (pu_retS (pu_cst _)) (pu_skipS))))) (pu_retS (pu_andE (pu_op2 (pu_bvar _) (pu_bvar _)) (pu_andE (pu_op2 (pu_bvar _) (pu_bvar _)) (pu_callD (pu_f__law_rises) (pu_consA (pu_var _) (pu_nilA))))))))
-- 0 standing, 1 other, 2 spots, 3 prices, 4 price
def b_least_dearest : SF :=
    seqS (forS (seqI (op2 addW (ofN (lstN (consA (cst (.int 0)) (nilA)))) (callF sortedF (consA (bvar 3) (nilA))))) (nameG 4) (ifS (tst (op2 (inD false) (bvar 1) (callD (f_reached) (consA (var 0) (consA (var 2) (consA (var 4) (consA (var 3) (nilA)))))))) (retS (var 4)) (skipS))) <|
    retS (cst .none)
def f_least_dearest : List W → Tape → Option (W × Tape) := fnF 4 5 b_least_dearest
-- 0 one, 1 other, 2 spots, 3 prices, 4 most, 5 found, 6 left, 7 here, 8 move, 9 there
def b__law_reaches : SF :=
    seqS (parKLS 5 6 (dispK (var 0) (cst (.bool true))) (lstN (consA (var 0) (nilA)))) <|
    seqS (whileS (tst (op2 neW (bvar 6) (ofN (lstN (nilA))))) (seqS (popS 7 6) <|
    forS (seqI (callD (f__law_moves) (consA (var 7) (consA (var 2) (nilA))))) (nameG 8) (seqS (setS 9 (callD (f__law_moved) (consA (var 7) (consA (var 8) (nilA))))) <|
    ifS (andB (tst (op2 (inD true) (bvar 9) (bvar 5))) (tst (op2 leW (callD (f__law_price) (consA (var 8) (consA (var 3) (nilA)))) (bvar 4)))) (seqS (setDS 5 (cst (.bool true)) (bvar 9)) <|
    appS 6 (var 9)) (skipS))) 5000) <|
    retS (op2 (inD false) (bvar 1) (bvar 5))
def f__law_reaches : List W → Tape → Option (W × Tape) := fnF 5 10 b__law_reaches
-- 0 top, 1 bottom, 2 one, 3 other
def b_fraction : SF :=
    seqS (parS [2, 3] (consA (var 0) (consA (var 1) (nilA)))) <|
    seqS (whileS (tst (op2 neW (bvar 3) (cst (.int 0)))) (parS [2, 3] (consA (var 3) (consA (op2 modW (bvar 2) (bvar 3)) (nilA)))) 5000) <|
    retS (tupF (consA (op2 fdivW (bvar 0) (bvar 2)) (consA (op2 fdivW (bvar 1) (bvar 2)) (nilA))))
def f_fraction : List W → Tape → Option (W × Tape) := fnF 2 4 b_fraction
theorem pu_f_fraction : PuF f_fraction := pu_fn (pu_seqS (pu_parS (pu_consA (pu_var _) (pu_consA (pu_var _) (pu_nilA)))) (pu_seqS (pu_whileS (pu_tst (pu_op2 (pu_bvar _) (pu_cst _))) (pu_parS (pu_consA (pu_var _) (pu_consA (pu_op2 (pu_bvar _) (pu_bvar _)) (pu_nilA)))) _) (pu_retS (pu_tupF (pu_consA (pu_op2 (pu_bvar _) (pu_bvar _)) (pu_consA (pu_op2 (pu_bvar _) (pu_bvar _)) (pu_nilA)))))))
-- 0 standing, 1 thing, 2 stack, 3 spots, 4 doll
def b_is_order : SF :=
    seqS (ifS (orB (notB (tst (un1 (isiW ["tuple"]) (bvar 1)))) (notB (tst (callF allF (consA (ofN (lcN (seqI (var 1)) (nameG 4) (yesB) (callD (f_is_within) (consA (var 4) (consA (cst (.int 1)) (consA (callF lenF (consA (bvar 1) (nilA))) (nilA))))) [4])) (nilA)))))) (retS (cst (.bool false))) (skipS)) <|
    seqS (ifS (tst (op2 neW (callF sortedF (consA (bvar 1) (nilA))) (callD (f_dolls) (consA (var 0) (nilA))))) (retS (cst (.bool false))) (skipS)) <|
    seqS (forS (seqI (var 0)) (nameG 2) (seqS (setS 3 (ofN (lcN (seqI (un1 revW (bvar 2))) (nameG 4) (yesB) (op2 idxW (bvar 1) (bvar 4)) [4]))) <|
    ifS (tst (op2 neW (bvar 3) (callF sortedF (consA (bvar 3) (nilA))))) (retS (cst (.bool false))) (skipS))) <|
    retS (cst (.bool true))
def f_is_order : List W → Tape → Option (W × Tape) := fnF 2 5 b_is_order
theorem pu_f_is_order : PuF f_is_order := pu_fn (pu_seqS (pu_ifS (pu_orB (pu_notB (pu_tst (pu_un1 (pu_bvar _)))) (pu_notB (pu_tst (pu_callF (pu_consA (pu_ofN (pu_lcN (pu_seqI (pu_var _)) (pu_yesB) (pu_callD (pu_f_is_within) (pu_consA (pu_var _) (pu_consA (pu_cst _) (pu_consA (pu_callF (pu_consA (pu_bvar _) (pu_nilA))) (pu_nilA))))))) (pu_nilA)))))) (pu_retS (pu_cst _)) (pu_skipS)) (pu_seqS (pu_ifS (pu_tst (pu_op2 (pu_callF (pu_consA (pu_bvar _) (pu_nilA))) (pu_callD (pu_f_dolls) (pu_consA (pu_var _) (pu_nilA))))) (pu_retS (pu_cst _)) (pu_skipS)) (pu_seqS (pu_forS (pu_seqI (pu_var _)) (pu_seqS (pu_setS (pu_ofN (pu_lcN (pu_seqI (pu_un1 (pu_bvar _))) (pu_yesB) (pu_op2 (pu_bvar _) (pu_bvar _))))) (pu_ifS (pu_tst (pu_op2 (pu_bvar _) (pu_callF (pu_consA (pu_bvar _) (pu_nilA))))) (pu_retS (pu_cst _)) (pu_skipS)))) (pu_retS (pu_cst _)))))
-- 0 order, 1 prices, 2 chances, 3 time, 4 wait, 5 doll
def b_wait_by : SF :=
    seqS (set2S 3 4 (cst (.int 0))) <|
    seqS (forS (seqI (var 0)) (nameG 5) (seqS (augS 3 (op2 ixW (bvar 1) (op2 subW (bvar 5) (cst (.int 1))))) <|
    augS 4 (op2 mulW (op2 ixW (bvar 2) (op2 subW (bvar 5) (cst (.int 1)))) (bvar 3)))) <|
    retS (var 4)
def f_wait_by : List W → Tape → Option (W × Tape) := fnF 3 6 b_wait_by
-- 0 standing, 1 prices, 2 chances, 3 order
def b_wait_of : SF :=
    seqS (ifS (notB (tst (callD (f_is_order) (consA (var 0) (consA (var 3) (nilA)))))) (stuckS) (skipS)) <|
    retS (callD (f_wait_by) (consA (var 3) (consA (var 1) (consA (var 2) (nilA)))))
def f_wait_of : List W → Tape → Option (W × Tape) := fnF 4 4 b_wait_of
-- 0 one, 1 other
def b_is_less : SF :=
    retS (op2 ltW (op2 mulW (op2 ixW (bvar 0) (cst (.int 0))) (op2 ixW (bvar 1) (cst (.int 1)))) (op2 mulW (op2 ixW (bvar 1) (cst (.int 0))) (op2 ixW (bvar 0) (cst (.int 1)))))
def f_is_less : List W → Tape → Option (W × Tape) := fnF 2 2 b_is_less
theorem pu_f_is_less : PuF f_is_less := pu_fn (pu_retS (pu_op2 (pu_op2 (pu_op2 (pu_bvar _) (pu_cst _)) (pu_op2 (pu_bvar _) (pu_cst _))) (pu_op2 (pu_op2 (pu_bvar _) (pu_cst _)) (pu_op2 (pu_bvar _) (pu_cst _)))))
-- 0 lot, 1 prices, 2 chances, 3 doll
def b_worth : SF :=
    retS (tupF (consA (callF (intsW sumG) (consA (ofN (lcN (seqI (var 0)) (nameG 3) (yesB) (op2 ixW (bvar 2) (op2 subW (bvar 3) (cst (.int 1)))) [3])) (nilA))) (consA (callF (intsW sumG) (consA (ofN (lcN (seqI (var 0)) (nameG 3) (yesB) (op2 ixW (bvar 1) (op2 subW (bvar 3) (cst (.int 1)))) [3])) (nilA))) (nilA))))
def f_worth : List W → Tape → Option (W × Tape) := fnF 3 4 b_worth
theorem pu_f_worth : PuF f_worth := pu_fn (pu_retS (pu_tupF (pu_consA (pu_callF (pu_consA (pu_ofN (pu_lcN (pu_seqI (pu_var _)) (pu_yesB) (pu_op2 (pu_bvar _) (pu_op2 (pu_bvar _) (pu_cst _))))) (pu_nilA))) (pu_consA (pu_callF (pu_consA (pu_ofN (pu_lcN (pu_seqI (pu_var _)) (pu_yesB) (pu_op2 (pu_bvar _) (pu_op2 (pu_bvar _) (pu_cst _))))) (pu_nilA))) (pu_nilA)))))
-- 0 some, 1 prices, 2 chances, 3 found, 4 best, 5 size
def b_lots_of : SF :=
    seqS (setS 3 (tupF (nilA))) <|
    seqS (whileS (tst (op2 neW (bvar 0) (tupF (nilA)))) (seqS (setS 4 (slF (bvar 0) (noO) (someO (cst (.int 1))))) <|
    seqS (forS (rng2I (consA (cst (.int 1)) (consA (op2 addW (callF lenF (consA (bvar 0) (nilA))) (cst (.int 1))) (nilA)))) (nameG 5) (ifS (notB (tst (callD (f_is_less) (consA (callD (f_worth) (consA (slF (bvar 0) (noO) (someO (bvar 5))) (consA (var 1) (consA (var 2) (nilA))))) (consA (callD (f_worth) (consA (var 4) (consA (var 1) (consA (var 2) (nilA))))) (nilA)))))) (setS 4 (slF (bvar 0) (noO) (someO (bvar 5)))) (skipS))) <|
    seqS (setS 3 (op2 addW (bvar 3) (tupF (consA (var 4) (nilA))))) <|
    setS 0 (slF (bvar 0) (someO (callF lenF (consA (bvar 4) (nilA)))) (noO))) 5000) <|
    retS (var 3)
def f_lots_of : List W → Tape → Option (W × Tape) := fnF 3 6 b_lots_of
theorem pu_f_lots_of : PuF f_lots_of := pu_fn (pu_seqS (pu_setS (pu_tupF (pu_nilA))) (pu_seqS (pu_whileS (pu_tst (pu_op2 (pu_bvar _) (pu_tupF (pu_nilA)))) (pu_seqS (pu_setS (pu_slF (pu_bvar _) (pu_noO) (pu_someO (pu_cst _)))) (pu_seqS (pu_forS (pu_rng2 (pu_consA (pu_cst _) (pu_consA (pu_op2 (pu_callF (pu_consA (pu_bvar _) (pu_nilA))) (pu_cst _)) (pu_nilA)))) (pu_ifS (pu_notB (pu_tst (pu_callD (pu_f_is_less) (pu_consA (pu_callD (pu_f_worth) (pu_consA (pu_slF (pu_bvar _) (pu_noO) (pu_someO (pu_bvar _))) (pu_consA (pu_var _) (pu_consA (pu_var _) (pu_nilA))))) (pu_consA (pu_callD (pu_f_worth) (pu_consA (pu_var _) (pu_consA (pu_var _) (pu_consA (pu_var _) (pu_nilA))))) (pu_nilA)))))) (pu_setS (pu_slF (pu_bvar _) (pu_noO) (pu_someO (pu_bvar _)))) (pu_skipS))) (pu_seqS (pu_setS (pu_op2 (pu_bvar _) (pu_tupF (pu_consA (pu_var _) (pu_nilA))))) (pu_setS (pu_slF (pu_bvar _) (pu_someO (pu_callF (pu_consA (pu_bvar _) (pu_nilA)))) (pu_noO)))))) _) (pu_retS (pu_var _))))
-- 0 standing, 1 prices, 2 chances, 3 stack
def b_coin_paper : SF :=
    retS (callF tupleF (consA (ofN (lcN (seqI (var 0)) (nameG 3) (yesB) (callD (f_lots_of) (consA (un1 revW (bvar 3)) (consA (var 1) (consA (var 2) (nilA))))) [3])) (nilA)))
def f_coin_paper : List W → Tape → Option (W × Tape) := fnF 3 4 b_coin_paper
theorem pu_f_coin_paper : PuF f_coin_paper := pu_fn (pu_retS (pu_callF (pu_consA (pu_ofN (pu_lcN (pu_seqI (pu_var _)) (pu_yesB) (pu_callD (pu_f_lots_of) (pu_consA (pu_un1 (pu_bvar _)) (pu_consA (pu_var _) (pu_consA (pu_var _) (pu_nilA))))))) (pu_nilA))))
-- 0 paper, 1 prices, 2 chances, 3 row, 4 lots, 5 lot, 6 value, 7 at, 8 doll, 9 one
def b_order_by : SF :=
    seqS (setS 3 (ofN (lstN (nilA)))) <|
    seqS (forS (seqI (var 0)) (nameG 4) (forS (seqI (var 4)) (nameG 5) (seqS (setS 6 (callD (f_worth) (consA (var 5) (consA (var 1) (consA (var 2) (nilA)))))) <|
    seqS (setS 7 (callF lenF (consA (ofN (lcN (seqI (var 3)) (nameG 9) (notB (tst (callD (f_is_less) (consA (callD (f_worth) (consA (var 9) (consA (var 1) (consA (var 2) (nilA))))) (consA (var 6) (nilA)))))) (var 9) [9])) (nilA)))) <|
    setS 3 (op2 addW (op2 addW (slF (bvar 3) (noO) (someO (bvar 7))) (ofN (lstN (consA (var 5) (nilA))))) (slF (bvar 3) (someO (bvar 7)) (noO)))))) <|
    retS (callF tupleF (consA (ofN (lc2N (seqI (var 3)) (nameG 5) (seqI (var 5)) (nameG 8) (yesB) (var 8) [5, 8] [8])) (nilA)))
def f_order_by : List W → Tape → Option (W × Tape) := fnF 3 10 b_order_by
theorem pu_f_order_by : PuF f_order_by := pu_fn (pu_seqS (pu_setS (pu_ofN (pu_lstN (pu_nilA)))) (pu_seqS (pu_forS (pu_seqI (pu_var _)) (pu_forS (pu_seqI (pu_var _)) (pu_seqS (pu_setS (pu_callD (pu_f_worth) (pu_consA (pu_var _) (pu_consA (pu_var _) (pu_consA (pu_var _) (pu_nilA)))))) (pu_seqS (pu_setS (pu_callF (pu_consA (pu_ofN (pu_lcN (pu_seqI (pu_var _)) (pu_notB (pu_tst (pu_callD (pu_f_is_less) (pu_consA (pu_callD (pu_f_worth) (pu_consA (pu_var _) (pu_consA (pu_var _) (pu_consA (pu_var _) (pu_nilA))))) (pu_consA (pu_var _) (pu_nilA)))))) (pu_var _))) (pu_nilA)))) (pu_setS (pu_op2 (pu_op2 (pu_slF (pu_bvar _) (pu_noO) (pu_someO (pu_bvar _))) (pu_ofN (pu_lstN (pu_consA (pu_var _) (pu_nilA))))) (pu_slF (pu_bvar _) (pu_someO (pu_bvar _)) (pu_noO)))))))) (pu_retS (pu_callF (pu_consA (pu_ofN (pu_lc2N (pu_seqI (pu_var _)) (pu_seqI (pu_var _)) (pu_yesB) (pu_var _))) (pu_nilA))))))
-- 0 standing, 1 prices, 2 chances
def b_least_wait : SF :=
    retS (callD (f_wait_by) (consA (callD (f_order_by) (consA (callD (f_coin_paper) (consA (var 0) (consA (var 1) (consA (var 2) (nilA))))) (consA (var 1) (consA (var 2) (nilA))))) (consA (var 1) (consA (var 2) (nilA)))))
def f_least_wait : List W → Tape → Option (W × Tape) := fnF 3 3 b_least_wait
-- 0 standing, 1 prices, 2 chances
def b_finds_in : SF :=
    retS (callD (f_fraction) (consA (callD (f_least_wait) (consA (var 0) (consA (var 1) (consA (var 2) (nilA))))) (consA (callF (intsW sumG) (consA (bvar 2) (nilA))) (nilA))))
def f_finds_in : List W → Tape → Option (W × Tape) := fnF 3 3 b_finds_in
-- 0 standing, 1 prices, 2 chances, 3 least, 4 left, 5 found, 6 doll, 7 rest, 8 paper, 9 order, 10 stack
def b_best_order : SF :=
    seqS (setS 3 (callD (f_least_wait) (consA (var 0) (consA (var 1) (consA (var 2) (nilA)))))) <|
    seqS (setS 4 (ofN (lcN (seqI (var 0)) (nameG 10) (yesB) (un1 revW (bvar 10)) [10]))) <|
    seqS (setS 5 (tupF (nilA))) <|
    seqS (whileS (tst (op2 ltW (callF lenF (consA (bvar 5) (nilA))) (callF lenF (consA (callD (f_dolls) (consA (var 0) (nilA))) (nilA))))) (seqS (forS (seqI (callF sortedF (consA (ofN (lcN (seqI (var 4)) (nameG 10) (tst (op2 neW (bvar 10) (tupF (nilA)))) (op2 ixW (bvar 10) (cst (.int 0))) [10])) (nilA)))) (nameG 6) (seqS (setS 7 (ofN (lcN (seqI (var 4)) (nameG 10) (yesB) (ifE (tst (op2 eqW (slF (bvar 10) (noO) (someO (cst (.int 1)))) (tupF (consA (var 6) (nilA))))) (slF (bvar 10) (someO (cst (.int 1))) (noO)) (var 10)) [10]))) <|
    seqS (setS 8 (ofN (lcN (seqI (var 7)) (nameG 10) (yesB) (callD (f_lots_of) (consA (var 10) (consA (var 1) (consA (var 2) (nilA))))) [10]))) <|
    seqS (setS 9 (op2 addW (op2 addW (bvar 5) (tupF (consA (var 6) (nilA)))) (callD (f_order_by) (consA (var 8) (consA (var 1) (consA (var 2) (nilA))))))) <|
    ifS (tst (op2 eqW (callD (f_wait_by) (consA (var 9) (consA (var 1) (consA (var 2) (nilA))))) (bvar 3))) (brkS) (skipS))) <|
    seqS (setS 5 (op2 addW (bvar 5) (tupF (consA (var 6) (nilA))))) <|
    setS 4 (var 7)) 5000) <|
    retS (var 5)
def f_best_order : List W → Tape → Option (W × Tape) := fnF 3 11 b_best_order
-- 0 tape, 1 many, 2 found, 3 k
def b__law_any_order : SF :=
    seqS (ownS 2 (lstN (nilA))) <|
    seqS (forS (rng1I (consA (bvar 1) (nilA))) (nameG 3) (insS 2 (callD (f__law_draw) (consA (var 0) (consA (op2 addW (bvar 3) (cst (.int 1))) (nilA)))) (var 3))) <|
    retS (callF tupleF (consA (bvar 2) (nilA)))
def f__law_any_order : List W → Tape → Option (W × Tape) := fnF 2 4 b__law_any_order
-- 0 tape, 1 many, 2 top, 3 found, 4 k
def b__law_chances : SF :=
    seqS (setS 2 (op2 ixW (ofN (lstN (consA (cst (.int 2)) (consA (cst (.int 5)) (consA (cst (.int 101)) (nilA)))))) (callD (f__law_draw) (consA (var 0) (consA (cst (.int 3)) (nilA)))))) <|
    seqS (ownS 3 (lcN (rng1I (consA (bvar 1) (nilA))) (nameG 4) (yesB) (callD (f__law_draw) (consA (var 0) (consA (var 2) (nilA)))) [4])) <|
    seqS (setIxS 3 (op2 addW (cst (.int 1)) (callD (f__law_draw) (consA (var 0) (consA (cst (.int 100)) (nilA))))) (callD (f__law_draw) (consA (var 0) (consA (var 1) (nilA))))) <|
    retS (callF tupleF (consA (bvar 3) (nilA)))
def f__law_chances : List W → Tape → Option (W × Tape) := fnF 2 5 b__law_chances
-- 0 standing, 1 found, 2 turn, 3 longer, 4 order, 5 left, 6 at, 7 stack
def b__law_orders : SF :=
    seqS (setS 1 (ofN (lstN (consA (tupF (consA (tupF (nilA)) (consA (ofN (lcN (seqI (var 0)) (nameG 7) (yesB) (un1 revW (bvar 7)) [7])) (nilA)))) (nilA))))) <|
    seqS (forS (rng1I (consA (callF (intsW sumG) (consA (ofN (lcN (seqI (var 0)) (nameG 7) (yesB) (callF lenF (consA (bvar 7) (nilA))) [7])) (nilA))) (nilA))) (nameG 2) (seqS (ownS 3 (lstN (nilA))) <|
    seqS (forS (seqI (var 1)) (tupG 2 (consG (nameG 4) (consG (nameG 5) (nilG)))) (forS (rng1I (consA (callF lenF (consA (bvar 5) (nilA))) (nilA))) (nameG 6) (ifS (tst (op2 neW (op2 ixW (bvar 5) (bvar 6)) (tupF (nilA)))) (appS 3 (tupF (consA (op2 addW (bvar 4) (slF (op2 ixW (bvar 5) (bvar 6)) (noO) (someO (cst (.int 1))))) (consA (op2 addW (op2 addW (slF (bvar 5) (noO) (someO (bvar 6))) (ofN (lstN (consA (slF (op2 ixW (bvar 5) (bvar 6)) (someO (cst (.int 1))) (noO)) (nilA))))) (slF (bvar 5) (someO (op2 addW (bvar 6) (cst (.int 1)))) (noO))) (nilA))))) (skipS)))) <|
    setS 1 (var 3))) <|
    retS (callF sortedF (consA (ofN (lcN (seqI (var 1)) (tupG 2 (consG (nameG 4) (consG (nameG 5) (nilG)))) (yesB) (var 4) [4, 5])) (nilA)))
def f__law_orders : List W → Tape → Option (W × Tape) := fnF 1 8 b__law_orders
theorem pu_f__law_orders : PuF f__law_orders := pu_fn (pu_seqS (pu_setS (pu_ofN (pu_lstN (pu_consA (pu_tupF (pu_consA (pu_tupF (pu_nilA)) (pu_consA (pu_ofN (pu_lcN (pu_seqI (pu_var _)) (pu_yesB) (pu_un1 (pu_bvar _)))) (pu_nilA)))) (pu_nilA))))) (pu_seqS (pu_forS (pu_rng1 (pu_consA (pu_callF (pu_consA (pu_ofN (pu_lcN (pu_seqI (pu_var _)) (pu_yesB) (pu_callF (pu_consA (pu_bvar _) (pu_nilA))))) (pu_nilA))) (pu_nilA))) (pu_seqS (pu_ownS (pu_lstN (pu_nilA))) (pu_seqS (pu_forS (pu_seqI (pu_var _)) (pu_forS (pu_rng1 (pu_consA (pu_callF (pu_consA (pu_bvar _) (pu_nilA))) (pu_nilA))) (pu_ifS (pu_tst (pu_op2 (pu_op2 (pu_bvar _) (pu_bvar _)) (pu_tupF (pu_nilA)))) (pu_appS (pu_tupF (pu_consA (pu_op2 (pu_bvar _) (pu_slF (pu_op2 (pu_bvar _) (pu_bvar _)) (pu_noO) (pu_someO (pu_cst _)))) (pu_consA (pu_op2 (pu_op2 (pu_slF (pu_bvar _) (pu_noO) (pu_someO (pu_bvar _))) (pu_ofN (pu_lstN (pu_consA (pu_slF (pu_op2 (pu_bvar _) (pu_bvar _)) (pu_someO (pu_cst _)) (pu_noO)) (pu_nilA))))) (pu_slF (pu_bvar _) (pu_someO (pu_op2 (pu_bvar _) (pu_cst _))) (pu_noO))) (pu_nilA))))) (pu_skipS)))) (pu_setS (pu_var _))))) (pu_retS (pu_callF (pu_consA (pu_ofN (pu_lcN (pu_seqI (pu_var _)) (pu_yesB) (pu_var _))) (pu_nilA))))))
-- 0 order, 1 prices, 2 chances, 3 found, 4 time, 5 doll
def b__law_wait : SF :=
    seqS (unpS (tupF (consA (cst (.int 0)) (consA (cst (.int 0)) (nilA)))) (tupG 2 (consG (nameG 3) (consG (nameG 4) (nilG))))) <|
    seqS (forS (seqI (var 0)) (nameG 5) (seqS (setS 4 (op2 addW (bvar 4) (op2 ixW (bvar 1) (op2 subW (bvar 5) (cst (.int 1)))))) <|
    setS 3 (op2 addW (bvar 3) (op2 mulW (bvar 4) (op2 ixW (bvar 2) (op2 subW (bvar 5) (cst (.int 1)))))))) <|
    retS (var 3)
def f__law_wait : List W → Tape → Option (W × Tape) := fnF 3 6 b__law_wait
theorem pu_f__law_wait : PuF f__law_wait := pu_fn (pu_seqS (pu_unpS (pu_tupF (pu_consA (pu_cst _) (pu_consA (pu_cst _) (pu_nilA))))) (pu_seqS (pu_forS (pu_seqI (pu_var _)) (pu_seqS (pu_setS (pu_op2 (pu_bvar _) (pu_op2 (pu_bvar _) (pu_op2 (pu_bvar _) (pu_cst _))))) (pu_setS (pu_op2 (pu_bvar _) (pu_op2 (pu_bvar _) (pu_op2 (pu_bvar _) (pu_op2 (pu_bvar _) (pu_cst _)))))))) (pu_retS (pu_var _))))
-- 0 standing, 1 prices, 2 chances, 3 item, 4 doll
def b__law_due : SF :=
    seqS (ifS (orB (notB (tst (un1 (isiW ["tuple"]) (bvar 3)))) (tst (op2 neW (ofN (lcN (seqI (var 3)) (nameG 4) (notB (tst (callD (f__law_whole) (consA (var 4) (nilA))))) (cst (.int 1)) [4])) (ofN (lstN (nilA)))))) (retS (ofN (lstN (consA (cst (.str "order")) (nilA))))) (skipS)) <|
    seqS (ifS (tst (op2 (inW true) (bvar 3) (callD (f__law_orders) (consA (var 0) (nilA))))) (retS (ofN (lstN (consA (cst (.str "order")) (nilA))))) (skipS)) <|
    retS (callD (f__law_wait) (consA (var 3) (consA (var 1) (consA (var 2) (nilA)))))
def f__law_due : List W → Tape → Option (W × Tape) := fnF 4 5 b__law_due
theorem pu_f__law_due : PuF f__law_due := pu_fn (pu_seqS (pu_ifS (pu_orB (pu_notB (pu_tst (pu_un1 (pu_bvar _)))) (pu_tst (pu_op2 (pu_ofN (pu_lcN (pu_seqI (pu_var _)) (pu_notB (pu_tst (pu_callD (pu_f__law_whole) (pu_consA (pu_var _) (pu_nilA))))) (pu_cst _))) (pu_ofN (pu_lstN (pu_nilA)))))) (pu_retS (pu_ofN (pu_lstN (pu_consA (pu_cst _) (pu_nilA))))) (pu_skipS)) (pu_seqS (pu_ifS (pu_tst (pu_op2 (pu_bvar _) (pu_callD (pu_f__law_orders) (pu_consA (pu_var _) (pu_nilA))))) (pu_retS (pu_ofN (pu_lstN (pu_consA (pu_cst _) (pu_nilA))))) (pu_skipS)) (pu_retS (pu_callD (pu_f__law_wait) (pu_consA (pu_var _) (pu_consA (pu_var _) (pu_consA (pu_var _) (pu_nilA))))))))
-- 0 lots, 1 prices, 2 chances, 3 lot, 4 whole, 5 some, 6 size, 7 one, 8 other
def b_are_good : SF :=
    seqS (forS (seqI (var 0)) (nameG 3) (seqS (setS 4 (callD (f_worth) (consA (var 3) (consA (var 1) (consA (var 2) (nilA)))))) <|
    ifS (tst (callF anyF (consA (ofN (lcN (rng2I (consA (cst (.int 1)) (consA (callF lenF (consA (bvar 3) (nilA))) (nilA)))) (nameG 6) (yesB) (callD (f_is_less) (consA (var 4) (consA (callD (f_worth) (consA (slF (bvar 3) (noO) (someO (bvar 6))) (consA (var 1) (consA (var 2) (nilA))))) (nilA)))) [6])) (nilA)))) (retS (cst (.bool false))) (skipS))) <|
    seqS (setS 5 (ofN (lcN (seqI (var 0)) (nameG 3) (yesB) (callD (f_worth) (consA (var 3) (consA (var 1) (consA (var 2) (nilA))))) [3]))) <|
    retS (notE (callF anyF (consA (ofN (lcN (zipI (consA (var 5) (consA (slF (bvar 5) (someO (cst (.int 1))) (noO)) (nilA)))) (tupG 2 (consG (nameG 7) (consG (nameG 8) (nilG)))) (yesB) (callD (f_is_less) (consA (var 7) (consA (var 8) (nilA)))) [7, 8])) (nilA))))
def f_are_good : List W → Tape → Option (W × Tape) := fnF 3 9 b_are_good
theorem pu_f_are_good : PuF f_are_good := pu_fn (pu_seqS (pu_forS (pu_seqI (pu_var _)) (pu_seqS (pu_setS (pu_callD (pu_f_worth) (pu_consA (pu_var _) (pu_consA (pu_var _) (pu_consA (pu_var _) (pu_nilA)))))) (pu_ifS (pu_tst (pu_callF (pu_consA (pu_ofN (pu_lcN (pu_rng2 (pu_consA (pu_cst _) (pu_consA (pu_callF (pu_consA (pu_bvar _) (pu_nilA))) (pu_nilA)))) (pu_yesB) (pu_callD (pu_f_is_less) (pu_consA (pu_var _) (pu_consA (pu_callD (pu_f_worth) (pu_consA (pu_slF (pu_bvar _) (pu_noO) (pu_someO (pu_bvar _))) (pu_consA (pu_var _) (pu_consA (pu_var _) (pu_nilA))))) (pu_nilA)))))) (pu_nilA)))) (pu_retS (pu_cst _)) (pu_skipS)))) (pu_seqS (pu_setS (pu_ofN (pu_lcN (pu_seqI (pu_var _)) (pu_yesB) (pu_callD (pu_f_worth) (pu_consA (pu_var _) (pu_consA (pu_var _) (pu_consA (pu_var _) (pu_nilA)))))))) (pu_retS (pu_notE (pu_callF (pu_consA (pu_ofN (pu_lcN (pu_zip (pu_consA (pu_var _) (pu_consA (pu_slF (pu_bvar _) (pu_someO (pu_cst _)) (pu_noO)) (pu_nilA)))) (pu_yesB) (pu_callD (pu_f_is_less) (pu_consA (pu_var _) (pu_consA (pu_var _) (pu_nilA)))))) (pu_nilA)))))))
-- 0 stack, 1 thing, 2 told, 3 lot, 4 doll
def b_are_lots : SF :=
    seqS (ifS (orB (notB (tst (un1 (isiW ["tuple"]) (bvar 1)))) (notB (tst (callF allF (consA (ofN (lcN (seqI (var 1)) (nameG 3) (yesB) (andE (un1 (isiW ["tuple"]) (bvar 3)) (op2 neW (bvar 3) (tupF (nilA)))) [3])) (nilA)))))) (retS (cst (.bool false))) (skipS)) <|
    seqS (setS 2 (ofN (lc2N (seqI (var 1)) (nameG 3) (seqI (var 3)) (nameG 4) (yesB) (var 4) [3, 4] [4]))) <|
    retS (andE (callF allF (consA (ofN (lcN (seqI (var 2)) (nameG 4) (yesB) (callD (f_is_within) (consA (var 4) (consA (cst (.int 1)) (consA (cst (.int 6)) (nilA))))) [4])) (nilA))) (op2 eqW (bvar 2) (ofN (listN (consA (un1 revW (bvar 0)) (nilA))))))
def f_are_lots : List W → Tape → Option (W × Tape) := fnF 2 5 b_are_lots
theorem pu_f_are_lots : PuF f_are_lots := pu_fn (pu_seqS (pu_ifS (pu_orB (pu_notB (pu_tst (pu_un1 (pu_bvar _)))) (pu_notB (pu_tst (pu_callF (pu_consA (pu_ofN (pu_lcN (pu_seqI (pu_var _)) (pu_yesB) (pu_andE (pu_un1 (pu_bvar _)) (pu_op2 (pu_bvar _) (pu_tupF (pu_nilA)))))) (pu_nilA)))))) (pu_retS (pu_cst _)) (pu_skipS)) (pu_seqS (pu_setS (pu_ofN (pu_lc2N (pu_seqI (pu_var _)) (pu_seqI (pu_var _)) (pu_yesB) (pu_var _)))) (pu_retS (pu_andE (pu_callF (pu_consA (pu_ofN (pu_lcN (pu_seqI (pu_var _)) (pu_yesB) (pu_callD (pu_f_is_within) (pu_consA (pu_var _) (pu_consA (pu_cst _) (pu_consA (pu_cst _) (pu_nilA))))))) (pu_nilA))) (pu_op2 (pu_bvar _) (pu_ofN (pu_listN (pu_consA (pu_un1 (pu_bvar _)) (pu_nilA)))))))))
-- 0 standing, 1 prices, 2 chances, 3 thing, 4 stack, 5 lots
def b_coin_shown : SF :=
    seqS (ifS (orB (notB (tst (un1 (isiW ["tuple"]) (bvar 3)))) (tst (op2 neW (callF lenF (consA (bvar 3) (nilA))) (callF lenF (consA (bvar 0) (nilA)))))) (retS (cst .none)) (skipS)) <|
    seqS (forS (zipI (consA (var 0) (consA (var 3) (nilA)))) (tupG 2 (consG (nameG 4) (consG (nameG 5) (nilG)))) (ifS (orB (notB (tst (callD (f_are_lots) (consA (var 4) (consA (var 5) (nilA)))))) (notB (tst (callD (f_are_good) (consA (var 5) (consA (var 1) (consA (var 2) (nilA)))))))) (retS (cst .none)) (skipS))) <|
    retS (callD (f_wait_by) (consA (callD (f_order_by) (consA (var 3) (consA (var 1) (consA (var 2) (nilA))))) (consA (var 1) (consA (var 2) (nilA)))))
def f_coin_shown : List W → Tape → Option (W × Tape) := fnF 4 6 b_coin_shown
-- 0 tape, 1 standing, 2 left, 3 found, 4 at, 5 stack
def b__law_drawn : SF :=
    seqS (parOwnS 2 3 (lcN (seqI (var 1)) (nameG 5) (yesB) (un1 revW (bvar 5)) [5]) (tupF (nilA))) <|
    seqS (whileS (tst (op2 neW (bvar 2) (ofN (lstN (nilA))))) (seqS (setS 4 (callD (f__law_draw) (consA (var 0) (consA (callF lenF (consA (bvar 2) (nilA))) (nilA))))) <|
    seqS (unpSubS 3 2 4 (tupF (consA (op2 addW (bvar 3) (slF (op2 ixW (bvar 2) (bvar 4)) (noO) (someO (cst (.int 1))))) (consA (slF (op2 ixW (bvar 2) (bvar 4)) (someO (cst (.int 1))) (noO)) (nilA))))) <|
    ownS 2 (lcN (seqI (var 2)) (nameG 5) (tst (op2 neW (bvar 5) (tupF (nilA)))) (var 5) [5])) 5000) <|
    retS (var 3)
def f__law_drawn : List W → Tape → Option (W × Tape) := fnF 2 6 b__law_drawn
-- 0 lot, 1 prices, 2 chances, 3 doll
def b__law_worth : SF :=
    retS (tupF (consA (callF (intsW sumG) (consA (ofN (lcN (seqI (var 0)) (nameG 3) (yesB) (op2 ixW (bvar 2) (op2 subW (bvar 3) (cst (.int 1)))) [3])) (nilA))) (consA (callF (intsW sumG) (consA (ofN (lcN (seqI (var 0)) (nameG 3) (yesB) (op2 ixW (bvar 1) (op2 subW (bvar 3) (cst (.int 1)))) [3])) (nilA))) (nilA))))
def f__law_worth : List W → Tape → Option (W × Tape) := fnF 3 4 b__law_worth
theorem pu_f__law_worth : PuF f__law_worth := pu_fn (pu_retS (pu_tupF (pu_consA (pu_callF (pu_consA (pu_ofN (pu_lcN (pu_seqI (pu_var _)) (pu_yesB) (pu_op2 (pu_bvar _) (pu_op2 (pu_bvar _) (pu_cst _))))) (pu_nilA))) (pu_consA (pu_callF (pu_consA (pu_ofN (pu_lcN (pu_seqI (pu_var _)) (pu_yesB) (pu_op2 (pu_bvar _) (pu_op2 (pu_bvar _) (pu_cst _))))) (pu_nilA))) (pu_nilA)))))
-- 0 one, 1 other
def b__law_more : SF :=
    retS (op2 gtW (op2 mulW (op2 ixW (bvar 0) (cst (.int 0))) (op2 ixW (bvar 1) (cst (.int 1)))) (op2 mulW (op2 ixW (bvar 1) (cst (.int 0))) (op2 ixW (bvar 0) (cst (.int 1)))))
def f__law_more : List W → Tape → Option (W × Tape) := fnF 2 2 b__law_more
theorem pu_f__law_more : PuF f__law_more := pu_fn (pu_retS (pu_op2 (pu_op2 (pu_op2 (pu_bvar _) (pu_cst _)) (pu_op2 (pu_bvar _) (pu_cst _))) (pu_op2 (pu_op2 (pu_bvar _) (pu_cst _)) (pu_op2 (pu_bvar _) (pu_cst _)))))
-- 0 stack, 1 lots, 2 prices, 3 chances, 4 ahead, 5 told, 6 lot, 7 worth_so, 8 at, 9 doll
def b__law_are_good : SF :=
    seqS (ifS (notB (tst (un1 (isiW ["tuple"]) (bvar 1)))) (retS (cst (.bool false))) (skipS)) <|
    seqS (parS [4, 5] (consA (cst .none) (consA (tupF (nilA)) (nilA)))) <|
    seqS (forS (seqI (var 1)) (nameG 6) (seqS (ifS (orB (notB (tst (un1 (isiW ["tuple"]) (bvar 6)))) (orB (tst (op2 eqW (bvar 6) (tupF (nilA)))) (tst (op2 neW (ofN (lcN (seqI (var 6)) (nameG 9) (notB (tst (callD (f__law_within) (consA (var 9) (consA (cst (.int 1)) (consA (cst (.int 6)) (nilA))))))) (cst (.int 1)) [9])) (ofN (lstN (nilA))))))) (retS (cst (.bool false))) (skipS)) <|
    setS 5 (op2 addW (bvar 5) (bvar 6)))) <|
    seqS (ifS (tst (op2 neW (bvar 5) (un1 revW (bvar 0)))) (retS (cst (.bool false))) (skipS)) <|
    seqS (forS (seqI (var 1)) (nameG 6) (seqS (setS 7 (callD (f__law_worth) (consA (var 6) (consA (var 2) (consA (var 3) (nilA)))))) <|
    seqS (ifS (andB (tst (op2 (isNW true) (bvar 4) (cst .none))) (tst (callD (f__law_more) (consA (var 7) (consA (var 4) (nilA)))))) (retS (cst (.bool false))) (skipS)) <|
    seqS (forS (rng2I (consA (cst (.int 1)) (consA (callF lenF (consA (bvar 6) (nilA))) (nilA)))) (nameG 8) (ifS (tst (callD (f__law_more) (consA (callD (f__law_worth) (consA (slF (bvar 6) (noO) (someO (bvar 8))) (consA (var 2) (consA (var 3) (nilA))))) (consA (var 7) (nilA))))) (retS (cst (.bool false))) (skipS))) <|
    setS 4 (var 7))) <|
    retS (cst (.bool true))
def f__law_are_good : List W → Tape → Option (W × Tape) := fnF 4 10 b__law_are_good
theorem pu_f__law_are_good : PuF f__law_are_good := pu_fn (pu_seqS (pu_ifS (pu_notB (pu_tst (pu_un1 (pu_bvar _)))) (pu_retS (pu_cst _)) (pu_skipS)) (pu_seqS (pu_parS (pu_consA (pu_cst _) (pu_consA (pu_tupF (pu_nilA)) (pu_nilA)))) (pu_seqS (pu_forS (pu_seqI (pu_var _)) (pu_seqS (pu_ifS (pu_orB (pu_notB (pu_tst (pu_un1 (pu_bvar _)))) (pu_orB (pu_tst (pu_op2 (pu_bvar _) (pu_tupF (pu_nilA)))) (pu_tst (pu_op2 (pu_ofN (pu_lcN (pu_seqI (pu_var _)) (pu_notB (pu_tst (pu_callD (pu_f__law_within) (pu_consA (pu_var _) (pu_consA (pu_cst _) (pu_consA (pu_cst _) (pu_nilA))))))) (pu_cst _))) (pu_ofN (pu_lstN (pu_nilA))))))) (pu_retS (pu_cst _)) (pu_skipS)) (pu_setS (pu_op2 (pu_bvar _) (pu_bvar _))))) (pu_seqS (pu_ifS (pu_tst (pu_op2 (pu_bvar _) (pu_un1 (pu_bvar _)))) (pu_retS (pu_cst _)) (pu_skipS)) (pu_seqS (pu_forS (pu_seqI (pu_var _)) (pu_seqS (pu_setS (pu_callD (pu_f__law_worth) (pu_consA (pu_var _) (pu_consA (pu_var _) (pu_consA (pu_var _) (pu_nilA)))))) (pu_seqS (pu_ifS (pu_andB (pu_tst (pu_op2 (pu_bvar _) (pu_cst _))) (pu_tst (pu_callD (pu_f__law_more) (pu_consA (pu_var _) (pu_consA (pu_var _) (pu_nilA)))))) (pu_retS (pu_cst _)) (pu_skipS)) (pu_seqS (pu_forS (pu_rng2 (pu_consA (pu_cst _) (pu_consA (pu_callF (pu_consA (pu_bvar _) (pu_nilA))) (pu_nilA)))) (pu_ifS (pu_tst (pu_callD (pu_f__law_more) (pu_consA (pu_callD (pu_f__law_worth) (pu_consA (pu_slF (pu_bvar _) (pu_noO) (pu_someO (pu_bvar _))) (pu_consA (pu_var _) (pu_consA (pu_var _) (pu_nilA))))) (pu_consA (pu_var _) (pu_nilA))))) (pu_retS (pu_cst _)) (pu_skipS))) (pu_setS (pu_var _)))))) (pu_retS (pu_cst _)))))))
-- 0 standing, 1 prices, 2 chances, 3 item, 4 stack, 5 lots, 6 left, 7 order, 8 best, 9 lot
def b__law_shown : SF :=
    seqS (ifS (orB (notB (tst (un1 (isiW ["tuple"]) (bvar 3)))) (tst (op2 neW (callF lenF (consA (bvar 3) (nilA))) (callF lenF (consA (bvar 0) (nilA)))))) (retS (cst .none)) (skipS)) <|
    seqS (forS (zipI (consA (var 0) (consA (var 3) (nilA)))) (tupG 2 (consG (nameG 4) (consG (nameG 5) (nilG)))) (ifS (notB (tst (callD (f__law_are_good) (consA (var 4) (consA (var 5) (consA (var 1) (consA (var 2) (nilA)))))))) (retS (cst .none)) (skipS))) <|
    seqS (parS [6, 7] (consA (callF sumLF (consA (ofN (lcN (seqI (var 3)) (nameG 5) (yesB) (ofN (listN (consA (bvar 5) (nilA)))) [5])) (consA (ofN (lstN (nilA))) (nilA)))) (consA (tupF (nilA)) (nilA)))) <|
    seqS (whileS (tst (op2 neW (bvar 6) (ofN (lstN (nilA))))) (seqS (setS 8 (op2 ixW (bvar 6) (cst (.int 0)))) <|
    seqS (forS (seqI (var 6)) (nameG 9) (ifS (tst (callD (f__law_more) (consA (callD (f__law_worth) (consA (var 9) (consA (var 1) (consA (var 2) (nilA))))) (consA (callD (f__law_worth) (consA (var 8) (consA (var 1) (consA (var 2) (nilA))))) (nilA))))) (setS 8 (var 9)) (skipS))) <|
    parS [7, 6] (consA (op2 addW (bvar 7) (bvar 8)) (consA (ofN (lcN (seqI (var 6)) (nameG 9) (tst (op2 neW (bvar 9) (bvar 8))) (var 9) [9])) (nilA)))) 5000) <|
    retS (callD (f__law_wait) (consA (var 7) (consA (var 1) (consA (var 2) (nilA)))))
def f__law_shown : List W → Tape → Option (W × Tape) := fnF 4 10 b__law_shown
theorem pu_f__law_shown : PuF f__law_shown := pu_fn (pu_seqS (pu_ifS (pu_orB (pu_notB (pu_tst (pu_un1 (pu_bvar _)))) (pu_tst (pu_op2 (pu_callF (pu_consA (pu_bvar _) (pu_nilA))) (pu_callF (pu_consA (pu_bvar _) (pu_nilA)))))) (pu_retS (pu_cst _)) (pu_skipS)) (pu_seqS (pu_forS (pu_zip (pu_consA (pu_var _) (pu_consA (pu_var _) (pu_nilA)))) (pu_ifS (pu_notB (pu_tst (pu_callD (pu_f__law_are_good) (pu_consA (pu_var _) (pu_consA (pu_var _) (pu_consA (pu_var _) (pu_consA (pu_var _) (pu_nilA)))))))) (pu_retS (pu_cst _)) (pu_skipS))) (pu_seqS (pu_parS (pu_consA (pu_callF (pu_consA (pu_ofN (pu_lcN (pu_seqI (pu_var _)) (pu_yesB) (pu_ofN (pu_listN (pu_consA (pu_bvar _) (pu_nilA)))))) (pu_consA (pu_ofN (pu_lstN (pu_nilA))) (pu_nilA)))) (pu_consA (pu_tupF (pu_nilA)) (pu_nilA)))) (pu_seqS (pu_whileS (pu_tst (pu_op2 (pu_bvar _) (pu_ofN (pu_lstN (pu_nilA))))) (pu_seqS (pu_setS (pu_op2 (pu_bvar _) (pu_cst _))) (pu_seqS (pu_forS (pu_seqI (pu_var _)) (pu_ifS (pu_tst (pu_callD (pu_f__law_more) (pu_consA (pu_callD (pu_f__law_worth) (pu_consA (pu_var _) (pu_consA (pu_var _) (pu_consA (pu_var _) (pu_nilA))))) (pu_consA (pu_callD (pu_f__law_worth) (pu_consA (pu_var _) (pu_consA (pu_var _) (pu_consA (pu_var _) (pu_nilA))))) (pu_nilA))))) (pu_setS (pu_var _)) (pu_skipS))) (pu_parS (pu_consA (pu_op2 (pu_bvar _) (pu_bvar _)) (pu_consA (pu_ofN (pu_lcN (pu_seqI (pu_var _)) (pu_tst (pu_op2 (pu_bvar _) (pu_bvar _))) (pu_var _))) (pu_nilA)))))) _) (pu_retS (pu_callD (pu_f__law_wait) (pu_consA (pu_var _) (pu_consA (pu_var _) (pu_consA (pu_var _) (pu_nilA))))))))))
-- 0 tape, 1 stack, 2 found, 3 doll
def b__law_parted : SF :=
    seqS (ownS 2 (lstN (nilA))) <|
    seqS (forS (seqI (un1 revW (bvar 1))) (nameG 3) (ifS (andB (tst (op2 neW (bvar 2) (ofN (lstN (nilA))))) (tst (op2 eqW (callD (f__law_draw) (consA (var 0) (consA (cst (.int 2)) (nilA)))) (cst (.int 0))))) (setIxS 2 (op2 addW (op2 ixW (bvar 2) (un1 negF (cst (.int 1)))) (tupF (consA (var 3) (nilA)))) (un1 negF (cst (.int 1)))) (appS 2 (tupF (consA (var 3) (nilA)))))) <|
    retS (callF tupleF (consA (bvar 2) (nilA)))
def f__law_parted : List W → Tape → Option (W × Tape) := fnF 2 4 b__law_parted
-- 0 tape, 1 much_of, 2 prime, 3 cell, 4 found
def b__law_drawv1 : SF :=
    seqS (setS 2 (cst (.int 2305843009213693951))) <|
    seqS (ifS (tst (op2 ltW (tapeIx 0 2) (bvar 1))) (seqS (setS 3 (cst (.int 0))) <|
    seqS (ifS (tst (op2 gtW (callF lenF (consA (tapeIx 0 0) (nilA))) (cst (.int 0)))) (setS 3 (op2 ixW (tapeIx 0 0) (op2 modW (tapeIx 0 1) (callF lenF (consA (tapeIx 0 0) (nilA)))))) (skipS)) <|
    seqS (ifS (orB (tst (op2 geW (tapeIx 0 1) (callF lenF (consA (tapeIx 0 0) (nilA))))) (tst (op2 ltW (bvar 3) (op2 powW (cst (.int 10)) (cst (.int 18)))))) (seqS (setS 3 (op2 modW (op2 addW (bvar 3) (op2 mulW (cst (.int 1000003)) (tapeIx 0 1))) (bvar 2))) <|
    seqS (setS 3 (op2 modW (op2 addW (op2 addW (op2 mulW (bvar 3) (bvar 3)) (op2 mulW (cst (.int 1181783497276652981)) (bvar 3))) (cst (.int 2049848353892358983))) (bvar 2))) <|
    setS 3 (op2 modW (op2 addW (op2 mulW (bvar 3) (bvar 3)) (cst (.int 1442695040888963407))) (bvar 2))) (skipS)) <|
    seqS (tapeS 0 1 (op2 addW (tapeIx 0 1) (cst (.int 1)))) <|
    tapeS 0 2 (var 3)) (skipS)) <|
    seqS (setS 4 (op2 modW (tapeIx 0 2) (bvar 1))) <|
    seqS (tapeS 0 2 (op2 fdivW (tapeIx 0 2) (bvar 1))) <|
    retS (var 4)
def f__law_drawv1 : List W → Tape → Option (W × Tape) := fnF 2 5 b__law_drawv1
end ND

set_option Elab.async false
set_option linter.all false
set_option maxRecDepth 100000
set_option maxHeartbeats 4000000
/-! ND29: a, b, c = a list; max of three, min of two, abs, int of a bool. -/
namespace ND
open PySem PySem.Spec L2
open PyProof.Rows hiding St
section
variable {X : Cx} {e a b c : Expr} {es : List Expr} {h : AF} {p pos : Pos}
def lstG (n : Nat) (h : GFs) : GF := fun d ρ => match d with
  | .list ds => if ds.length = n then h ds ρ else none
  | _ => none
theorem dg_lst {es : List Expr} {b : Bool} {k n : Nat} {is : List Nat} {g : GFs} (hc : X.calm = true) (h : DGs X es is g) (hn : (assignEach es X.env).length = n := by rfl) (hst : (assignEach es X.env).findIdx? (·.1) = none := by rfl) : DG X (.Tuple es k pos) b is (lstG n g) :=
  (pg_unl hc h hn hst).mono fun v σ H Q ⟨T, M0, H0, M, ρ, τ, d, ρ', S, r, eg, k⟩ => by
    unfold lstG at eg
    cases d with
    | list ds =>
      dsimp only at eg
      split at eg
      · next hl =>
        rcases r with r | ⟨_, a, vs, ds', rfl, ed, e1, q1⟩
        · cases (show Rp M H v (.list ds) from r) with
          | lst e1 n1 q1 => exact ⟨_, _, rfl, .inl (.inl e1), q1.length.trans hl, T, M0, H0, M, ρ, τ, ds, ρ', S, q1, eg, k⟩
        · cases ed
      · cases eg
    | _ => cases eg
theorem ev_lstG {n : Nat} {h : GFs} {ds : List PyData} {ρ ρ1 : EnvD} (hl : ds.length = n) (h1 : h ds ρ = some ρ1) : lstG n h (.list ds) ρ = some ρ1 := by
  show (if ds.length = n then h ds ρ else none) = _
  rw [if_pos hl, h1]
/-- max(a, b, c) -/
def max3F : List W → Option W
  | [.dat (.int i), .dat (.int j), .dat (.int k)] => some (.dat (.int (if (if i < j then j else i) < k then k else (if i < j then j else i))))
  | _ => none
theorem nuMax2_int (i j : Int) : nuMax2 (.int i) (.int j) = some (.int (if i < j then j else i)) := by
  show some (if decide (i < j) = true then V.int j else V.int i) = _
  by_cases h : i < j <;> simp [h]
theorem cd_max3 : CallD X (rNuC3 nuMax3) max3F := fun T M H ws w vs Q e tr mt r k => by
  unfold max3F at e
  split at e
  · cases e
    cases r with
    | cons r1 r2 =>
      cases r2 with
      | cons r2 r3 =>
        cases r3 with
        | cons r3 r4 =>
          cases r4
          cases (show Rp M H _ _ from r1)
          cases (show Rp M H _ _ from r2)
          cases (show Rp M H _ _ from r3)
          refine ⟨_, _, _, _, rfl, ?_, k _ H (Gr.refl H) (Rp.int _)⟩
          unfold nuMax3
          rw [nuMax2_int, Option.bind_some, nuMax2_int]
  · cases e
theorem dc_max3 (hc : X.calm = true) (hg : Gl X "max") (hm : X.mg "max" = none) (ha : DAB X [a, b, c] h) (hs : starEach [a, b, c] X.env = (false, eval a X.env) :: starEach [b, c] X.env := by rfl) (hpl : (backTo pos (starEach [b, c] X.env)).any (·.1) = false := by rfl) : DE X (.Call (.Name "max" p) [a, b, c] [] pos) (callF max3F h) := de_callB (call_max3Nu hc) cd_max3 hg hm bb_max ha (by decide) (by decide) hs hpl
/-- min(a, b) -/
def min2F : List W → Option W
  | [.dat (.int i), .dat (.int j)] => some (.dat (.int (if j < i then j else i)))
  | _ => none
theorem cd_min2 : CallD X (fun xs H Q => ∃ i j, xs = [.int i, .int j] ∧ Q (.int (if j < i then j else i)) H) min2F := fun T M H ws w vs Q e tr mt r k => by
  unfold min2F at e
  split at e
  · cases e
    cases r with
    | cons r1 r2 =>
      cases r2 with
      | cons r2 r3 =>
        cases r3
        cases (show Rp M H _ _ from r1)
        cases (show Rp M H _ _ from r2)
        exact ⟨_, _, rfl, k _ H (Gr.refl H) (Rp.int _)⟩
  · cases e
theorem dc_min2 (hc : X.calm = true) (hg : Gl X "min") (hm : X.mg "min" = none) (ha : DAB X [a, b] h) (hs : starEach [a, b] X.env = (false, eval a X.env) :: starEach [b] X.env := by rfl) (hpl : (backTo pos (starEach [b] X.env)).any (·.1) = false := by rfl) : DE X (.Call (.Name "min" p) [a, b] [] pos) (callF min2F h) := de_callB (call_min2 hc) cd_min2 hg hm bb_min ha (by decide) (by decide) hs hpl
/-- abs(a) -/
def absF : List W → Option W
  | [.dat (.int i)] => some (.dat (.int (if i < 0 then -i else i)))
  | _ => none
theorem cd_abs : CallD X (fun xs H Q => ∃ i, xs = [.int i] ∧ Q (.int (if i < 0 then -i else i)) H) absF := fun T M H ws w vs Q e tr mt r k => by
  unfold absF at e
  split at e
  · cases e
    cases r with
    | cons r1 r2 =>
      cases r2
      cases (show Rp M H _ _ from r1)
      exact ⟨_, rfl, k _ H (Gr.refl H) (Rp.int _)⟩
  · cases e
theorem dc_abs (hg : Gl X "abs") (hm : X.mg "abs" = none) (ha : DAB X [a] h) (hs : starEach [a] X.env = [(false, eval a X.env)] := by rfl) : DE X (.Call (.Name "abs" p) [a] [] pos) (callF absF h) := de_callB call_abs cd_abs hg hm bb_abs ha (by decide) (by decide) hs rfl
/-- int(a) of a bool or a whole number -/
def intF : List W → Option W
  | [.dat (.int i)] => some (.dat (.int i))
  | [.dat (.bool k)] => some (.dat (.int (if k then 1 else 0)))
  | _ => none
theorem cd_int : CallD X (fun xs H Q => (∃ i, xs = [.int i] ∧ Q (.int i) H) ∨ ∃ k, xs = [.bl k] ∧ Q (.int (if k then 1 else 0)) H) intF := fun T M H ws w vs Q e tr mt r k => by
  unfold intF at e
  split at e
  · cases e
    cases r with
    | cons r1 r2 =>
      cases r2
      cases (show Rp M H _ _ from r1)
      exact .inl ⟨_, rfl, k _ H (Gr.refl H) (Rp.int _)⟩
  · cases e
    cases r with
    | cons r1 r2 =>
      cases r2
      cases (show Rp M H _ _ from r1)
      exact .inr ⟨_, rfl, k _ H (Gr.refl H) (Rp.int _)⟩
  · cases e
theorem dc_int (hg : Gl X "int") (hm : X.mg "int" = none) (ha : DAB X [a] h) (hs : starEach [a] X.env = [(false, eval a X.env)] := by rfl) : DE X (.Call (.Name "int" p) [a] [] pos) (callF intF h) := de_callTy call_int1 cd_int hg hm bb_int ha (by decide) (by decide) hs rfl
end
end ND

set_option Elab.async false
set_option linter.all false
set_option maxRecDepth 100000
set_option maxHeartbeats 4000000
/-! ND30: dict(a tuple of pairs). -/
namespace ND
open PySem PySem.Spec L2
open PyProof.Rows hiding St
def pairsOf : List PyData → Option (List (PyData × PyData))
  | [] => some []
  | .tuple [k, v] :: ds => if (keyOf k).isSome = true then (pairsOf ds).map fun r => (k, v) :: r else none
  | _ :: _ => none
def fillD (kvs : List (PyData × PyData)) (acc : List (PyData × PyData)) : List (PyData × PyData) := kvs.foldl (fun a p => putD a p.1 p.2) acc
section
variable {X : Cx} {pins : List (Addr × Obj)} {σ : St} {H : Hp} {s : Shared} {M : MS}
theorem pairsOf_cons {d : PyData} {ds : List PyData} {kvs : List (PyData × PyData)} (h : pairsOf (d :: ds) = some kvs) : ∃ k v r kk, d = .tuple [k, v] ∧ keyOf k = some kk ∧ pairsOf ds = some r ∧ kvs = (k, v) :: r := by
  unfold pairsOf at h
  split at h
  · next h0 => cases h0
  · next k v ds' h0 =>
    cases h0
    split at h
    · next hk =>
      obtain ⟨kk, ek⟩ := Option.isSome_iff_exists.mp hk
      cases e : pairsOf ds with
      | none => rw [e] at h; cases h
      | some r => rw [e] at h; cases h; exact ⟨k, v, r, kk, rfl, ek, rfl, rfl⟩
    · cases h
  · cases h
structure PairsAt (X : Cx) (M : MS) (H : Hp) (h : Heap) (us : List Value) (Ts : List Addr) (ps : List (Value × Value)) (ph : List (NestedKey × Addr × Value)) (kvs : List (PyData × PyData)) : Prop where
  us : us = Ts.map Value.ref
  len : ps.length = Ts.length
  len2 : ph.length = Ts.length
  pr : ∀ (j : Nat) (k v : Value), ps[j]? = some (k, v) → ∃ T, Ts[j]? = some T ∧ PairAt h T k v ∧ ∃ nk b, ph[j]? = some (nk, b, v) ∧ k = .ref b
  is : ∀ x ∈ ph, (nestedKind X.prog X.w).is h x.1 x.2.1
  ent : ∀ acc accD, EntAll M H acc accD → EntAll M H (storedAllH acc ph) (fillD kvs accD)
theorem pairs_at (I : Inv X pins σ H s) : ∀ (ds : List PyData) (vs : List V) (us : List Value) (kvs : List (PyData × PyData)), RpAll M H vs ds → Vals vs us → pairsOf ds = some kvs → ∃ Ts ps ph, PairsAt X M H s.heap us Ts ps ph kvs
  | [], vs, us, kvs, h, r, e => by
    cases h; cases r
    cases (show some [] = some kvs from e)
    exact ⟨[], [], [], rfl, rfl, rfl, (fun j k v z => by simp at z), (fun x m => by cases m), fun acc accD q => q⟩
  | d :: ds, vs, us, kvs, h, r, e => by
    obtain ⟨kd, vd, rest, kk, rfl, ek, er, rfl⟩ := pairsOf_cons e
    cases h with
    | cons h1 h2 =>
      cases r with
      | @cons v0 u0 vs' us' r1 r2 =>
        obtain ⟨Ts, ps, ph, P⟩ := pairs_at I ds _ _ rest h2 r2 er
        cases h1 with
        | @tup a o xs _ e1 dn nm q =>
          cases (show u0 = Value.ref a from r1)
          cases q with
          | cons qk qr =>
            cases qr with
            | cons qv qn =>
              cases qn
              obtain ⟨h1', h2', its, rv, o', h3, h4, n, h5⟩ := I.hok a _ e1
              obtain ⟨uk, uv, rfl, rk, rvv⟩ := vals2 rv
              obtain ⟨b, rfl, rfl, his⟩ := rp_key I qk rk ek
              obtain ⟨e3, e4, _⟩ := keyOf_some ek
              refine ⟨a :: Ts, (.ref b, uv) :: ps, (kk, b, uv) :: ph, by rw [P.us]; rfl, by simp [P.len], by simp [P.len2], fun j k v z => ?_, fun x m => ?_, fun acc accD ha => ?_⟩
              · cases j with
                | zero =>
                  simp only [List.getElem?_cons_zero, Option.some.injEq, Prod.mk.injEq] at z
                  obtain ⟨rfl, rfl⟩ := z
                  exact ⟨a, rfl, .inl ⟨o', h3, h4, n, h5⟩, kk, b, rfl, rfl⟩
                | succ j =>
                  rw [List.getElem?_cons_succ] at z
                  obtain ⟨T, z1, z2, nk, b', z3, z4⟩ := P.pr j k v z
                  exact ⟨T, by rw [List.getElem?_cons_succ]; exact z1, z2, nk, b', by rw [List.getElem?_cons_succ]; exact z3, z4⟩
              · rcases List.mem_cons.mp m with rfl | m
                · exact his
                · exact P.is x m
              · exact P.ent _ _ (ha.put e3 e4 qk rvv qv)
theorem pairsOf_len : ∀ (ds : List PyData) (kvs : List (PyData × PyData)), pairsOf ds = some kvs → kvs.length = ds.length
  | [], kvs, e => by cases (show some [] = some kvs from e); rfl
  | d :: ds, kvs, e => by
    obtain ⟨kd, vd, rest, kk, rfl, ek, er, rfl⟩ := pairsOf_cons e
    rw [List.length_cons, List.length_cons, pairsOf_len ds rest er]
theorem fillD_len : ∀ (kvs acc : List (PyData × PyData)), (fillD kvs acc).length ≤ acc.length + kvs.length
  | [], acc => Nat.le_refl _
  | p :: kvs, acc => by
    have h1 := fillD_len kvs (putD acc p.1 p.2)
    have h2 := putD_length acc p.1 p.2
    show (fillD kvs (putD acc p.1 p.2)).length ≤ _
    rw [List.length_cons]
    omega
/-- dict(t) -/
def rDictT (X : Cx) : List V → Hp → VK → Prop := fun xs H Q => ∃ M a o vs ds kvs, xs = [.ref a] ∧ H a = some (.frz o (.tup vs)) ∧ o.dict = none ∧ RpAll M H vs ds ∧ pairsOf ds = some kvs ∧ ds.length ≤ sizeLine ∧
  ∀ p ep zs, H p = none → (p == sysModules) = false → EntAll M H zs (fillD kvs []) → (zs.map (·.1)).Nodup → Q (.ref p) (upd H p (dctO X.prog X.w p ep zs))
theorem call_dictT (hu : X.A.units + 10 < cLine) (hcalm : X.calm = true) : CallR X (.type "dict") (rDictT X) := by
  intro pins s σ H xs us Q I r q
  obtain ⟨M, a, o, vs, ds, kvs, rfl, e1, dn, rp, ep, hl, q⟩ := q
  obtain ⟨u, rfl, rx⟩ := vals1 r
  cases rx
  obtain ⟨ho, h2', its, rv, o', h3, h4, n, h5⟩ := I.hok a _ e1
  rw [ho] at h3
  cases h3
  obtain ⟨Ts, ps, ph, P⟩ := pairs_at I ds vs its kvs rp rv ep
  have hn : Ts.length = ds.length := by rw [← rp.length, rv.length, P.us, List.length_map]
  have hsm : (s.heap.objs.size == sysModules) = false := beq_eq_false_iff_ne.mpr (Ne.symm (Nat.ne_of_lt I.big))
  refine call_dict_pairsH (knd := nestedKind X.prog X.w) (ps := ph) (PairArg.tuple a its.toArray (fun j => Ts.getD j 0) ps) (I.ok.hd hcalm) (by show X.A.units + 1 + 1 + 8 < cLine; omega) ⟨⟨o, n, ho, h4, dn, h5⟩, by rw [P.us]; simp [P.len], fun j k v z => ?_⟩ ⟨by rw [P.len2, P.len], fun i key v z => ?_⟩ (fun h' hk x m => ?_) (by rw [P.len, hn]; exact hl) fun h' tk dd hk => ?_
  · obtain ⟨T, z1, z2, _⟩ := P.pr j k v z
    have : Ts.getD j 0 = T := by rw [List.getD_eq_getElem?_getD, z1]; rfl
    show its.toArray[j]? = some (Value.ref (Ts.getD j 0)) ∧ PairAt s.heap (Ts.getD j 0) k v
    rw [this]
    exact ⟨by rw [P.us]; simp [z1], z2⟩
  · obtain ⟨T, z1, z2, nk, b, z3, z4⟩ := P.pr i key v z
    exact ⟨nk, b, z3, z4⟩
  · have := P.is x m
    exact ⟨NestedIs.at (fun c oc zs nn ec _ => hk c oc (Nat.ne_of_lt (Heap.lt_size ec)) (by simp) ec) _ _ this.1, this.2⟩
  · have nd : ((storedAllH [] ph).map (·.1)).Nodup := by obtain ⟨_, _, _, _, _, _, _, _, nd⟩ := dd; exact nd
    obtain ⟨ep', ok'⟩ := dctO_ok dd
    exact ⟨.ref s.heap.objs.size, _, I.laid (a := s.heap.objs.size) (t' := tk) (fun b oo eb => hk b oo (by simp) eb) (Nat.le_refl _) (ok' _), rfl, q _ _ _ (I.hok.fresh (Nat.le_refl _)) hsm (P.ent [] [] .nil) nd⟩
variable {e a : Expr} {h : AF} {p pos : Pos}
def dictPK (h : AF) : KF := fun ρ τ => (h ρ τ).bind fun r => match r.1 with
  | [.dat (.tuple ds)] => if ds.length ≤ 16777216 then (pairsOf ds).map fun kvs => (fillD kvs [], r.2.1, r.2.2) else none
  | _ => none
theorem dk_dictP (hu : X.A.units + 10 < cLine) (hc : X.calm = true) (hg : Gl X "dict") (hm : X.mg "dict" = none) (ha : DA X [a] h) (hs : starEach [a] X.env = [(false, eval a X.env)] := by rfl) : DK X (.Call (.Name "dict" p) [a] [] pos) (dictPK h) :=
  (pe_callTy (call_dictT hu hc) hg hm bb_dict ha (by decide) (by decide) hs rfl).mono fun σ H Q ⟨T, M0, H0, M, ρ, τ, kvs, ρ', τ', S, ef, k⟩ => by
    unfold dictPK at ef
    cases e1 : h ρ τ with
    | none => rw [e1] at ef; cases ef
    | some r =>
      obtain ⟨ws, ρ1, τ1⟩ := r
      rw [e1] at ef
      simp only [Option.bind_some] at ef
      split at ef
      · next ds =>
        split at ef
        · next hl =>
          cases e2 : pairsOf ds with
          | none => rw [e2] at ef; cases ef
          | some kv0 =>
            rw [e2] at ef
            cases ef
            refine ⟨T, M0, H0, M, ρ, τ, _, _, _, S, e1, fun vs M1 H1 S1 x1 r1 => ?_⟩
            cases r1 with
            | cons r1 r2 =>
              cases r2
              cases (show Rp M1 H1 _ (.tuple ds) from r1) with
              | @tup a o xs _ ea dn nm q =>
                refine ⟨M1, a, o, xs, ds, kv0, rfl, ea, dn, q, e2, by rw [sizeLine_eq]; exact hl, fun p ep zs np hsm ent nd => ?_⟩
                have np0 : H p = none := by
                  cases eh : H p with
                  | none => rfl
                  | some oo =>
                    by_cases z : p = T
                    · exact absurd np (S1.trk p (by rw [z]; exact S1.mt))
                    · rw [x1.keep p oo eh z] at np; cases np
                have hlen : (fillD kv0 []).length ≤ sizeLine := by
                  have := fillD_len kv0 []
                  rw [pairsOf_len ds kv0 e2, List.length_nil] at this
                  rw [sizeLine_eq]
                  omega
                refine k p (fun b => M1 b ∨ b = p) _ ⟨S1.lock np, fun b oo eb nb => Gr.upd np b oo (x1.keep b oo eb nb), fun b m => m.imp (x1.sub b) id, np0, .inr rfl, S1.own_tracked np, hsm, hlen, ep, zs, upd_same, nd, ent.later ⟨fun b oo eb _ => Gr.upd np b oo eb, fun b m => by
                  rcases m with m | m
                  · exact .inl m
                  · exact .inr (by rw [m]; exact np)⟩⟩
        · cases ef
      · cases ef
end
theorem _root_.L2.Room.u10 {k : Nat} {A : Around} (r : Room k A) : A.units + 10 < cLine := by have := r.u65; omega
/-! by equations -/
theorem ev_dictP {h : AF} {ρ ρ1 : EnvD} {τ τ1 : Tape} {ds : List PyData} {kvs : List (PyData × PyData)} (h1 : h ρ τ = some ([.dat (.tuple ds)], ρ1, τ1)) (hl : ds.length ≤ 16777216) (h2 : pairsOf ds = some kvs) : dictPK h ρ τ = some (fillD kvs [], ρ1, τ1) := by
  unfold dictPK
  rw [h1]
  simp only [Option.bind_some]
  rw [if_pos hl, h2]
  rfl
end ND

set_option Elab.async false
set_option linter.all false
set_option maxRecDepth 100000
set_option maxHeartbeats 4000000
/-! ND31: f(k = v, ..): a def called by keywords alone. -/
namespace ND
open PySem PySem.Spec L2
open PyProof.Rows hiding St
/-- in the parameters' order -/
def pick {α : Type} (is : List Nat) (l : List α) : Option (List α) := match is with
  | [] => some []
  | i :: is => match l[i]?, pick is l with
    | some a, some r => some (a :: r)
    | _, _ => none
def permA (n : Nat) (is : List Nat) (h : AF) : AF := fun ρ τ => (h ρ τ).bind fun r => if r.1.length = n then (pick is r.1).map fun ws => (ws, r.2.1, r.2.2) else none
section
variable {X : Cx} {e a : Expr} {es : List Expr} {f g : EF} {h : AF} {p pos kpos : Pos} {x : Str} {kws : List Keyword} {nm : Option Str} {ks ps : List Str}
def DKw (X : Cx) (kws : List Keyword) (h : AF) : Prop := PK X kws (tDA X h)
theorem pk_mono {t t' : TA} (h : PK X kws t) (i : ∀ σ H Q, t' σ H Q → t σ H Q) : PK X kws t' := ⟨fun pos pins s σ H Q I q => h.run pos pins s σ H Q I (i σ H Q q)⟩
theorem dkw_nil : DKw X [] nilA := pk_mono pk_nil fun σ H Q ⟨T, M0, H0, M, ρ, τ, ws, ρ', τ', S, ef, k⟩ => by
  cases ef
  exact k [] M H S (Ex.refl _ _ _) .nil
theorem dkw_cons (ha : DE X a f) (hr : DKw X kws h) : DKw X (⟨nm, a, kpos⟩ :: kws) (consA f h) := pk_mono (pk_cons ha hr) fun σ H Q ⟨T, M0, H0, M, ρ, τ, w, ρ', τ', S, ef, k⟩ => by
  unfold consA at ef
  cases e1 : f ρ τ with
  | none => rw [e1] at ef; cases ef
  | some p =>
    obtain ⟨w1, ρ1, τ1⟩ := p
    rw [e1] at ef
    simp only [Option.bind_some] at ef
    cases e2 : h ρ1 τ1 with
    | none => rw [e2] at ef; cases ef
    | some p =>
      obtain ⟨ws, ρ2, τ2⟩ := p
      rw [e2] at ef
      cases ef
      refine ⟨T, M0, H0, M, ρ, τ, w1, ρ1, τ1, S, e1, fun v1 M1 H1 S1 x1 r1 => ?_⟩
      refine ⟨T, M0, H0, M1, ρ1, τ1, ws, _, _, S1, e2, fun vs M2 H2 S2 x2 r2 => ?_⟩
      exact k (v1 :: vs) M2 H2 S2 (x1.trans x2) (.cons (r1.later (x2.later S1.mt)) r2)
theorem pick_len {α : Type} : ∀ (is : List Nat) (l r : List α), pick is l = some r → r.length = is.length
  | [], l, r, e => by cases e; rfl
  | i :: is, l, r, e => by
    unfold pick at e
    split at e
    · next a r' e1 e2 => cases e; rw [List.length_cons, List.length_cons, pick_len is l r' e2]
    · cases e
theorem vals_get : ∀ {vs : List V} {us : List Value}, Vals vs us → ∀ (i : Nat) (v : V), vs[i]? = some v → ∃ u, us[i]? = some u ∧ RelV v u
  | _, _, .cons r1 r2, i, v, e => by
    cases i with
    | zero => cases e; exact ⟨_, rfl, r1⟩
    | succ i => exact vals_get r2 i v e
  | _, _, .nil, i, v, e => by simp at e
theorem vals_pick {vs : List V} {us : List Value} (r : Vals vs us) : ∀ (is : List Nat) (vs' : List V), pick is vs = some vs' → ∃ us', pick is us = some us' ∧ Vals vs' us'
  | [], vs', e => by cases e; exact ⟨[], rfl, .nil⟩
  | i :: is, vs', e => by
    unfold pick at e
    split at e
    · next a r' e1 e2 =>
      cases e
      obtain ⟨u, eu, ru⟩ := vals_get r i a e1
      obtain ⟨us', eus, rus⟩ := vals_pick r is r' e2
      refine ⟨u :: us', ?_, .cons ru rus⟩
      unfold pick
      rw [eu, eus]
    · cases e
theorem rw_get {C : Cf} {M : MS} {H : Hp} : ∀ {ws : List W} {vs : List V}, RwAll C M H ws vs → ∀ (i : Nat) (w : W), ws[i]? = some w → ∃ v, vs[i]? = some v ∧ Rw C M H w v
  | _, _, .cons r1 r2, i, w, e => by
    cases i with
    | zero => cases e; exact ⟨_, rfl, r1⟩
    | succ i => exact rw_get r2 i w e
  | _, _, .nil, i, w, e => by simp at e
theorem rw_pick {C : Cf} {M : MS} {H : Hp} {ws : List W} {vs : List V} (r : RwAll C M H ws vs) : ∀ (is : List Nat) (ws' : List W), pick is ws = some ws' → ∃ vs', pick is vs = some vs' ∧ RwAll C M H ws' vs'
  | [], ws', e => by cases e; exact ⟨[], rfl, .nil⟩
  | i :: is, ws', e => by
    unfold pick at e
    split at e
    · next a r' e1 e2 =>
      cases e
      obtain ⟨u, eu, ru⟩ := rw_get r i a e1
      obtain ⟨us', eus, rus⟩ := rw_pick r is r' e2
      refine ⟨u :: us', ?_, .cons ru rus⟩
      unfold pick
      rw [eu, eus]
    · cases e
variable {st : Stmt} {k j : Nat} {F : List W → Tape → Option (W × Tape)} {is : List Nat}
/-- how the keywords bind -/
def KwB (x : Str) (st : Stmt) (ps ks : List Str) (is : List Nat) : Prop := ∀ (kV doc pm : Value) (an : Option Addr) (cdv ct : Value) (ws us : List Value), ws.length = ks.length → pick is ws = some us → bindArgs (PySem.W.fnOf x x (defArgs st) (defBody st) (defScope st) .none kV doc pm an cdv ct) ⟨[], ks.zip ws⟩ = pure (ps.zip us)
def tKw (sp : Sp) (is : List Nat) (n : Nat) (tk : TA) : TE := fun σ H Q => tk σ H fun zs H2 => zs.length = n ∧ ∃ vs, pick is zs = some vs ∧ sp vs H2 Q E0
theorem pe_kw {sp : Sp} {tk : TA} {fa : Addr} {fd : FuncData} (Fu : Fun X.K x x st fa fd) (G : FnOk X.prog X.w X.K X.mg X.base CX0 k fa fd ps sp) (hr : Room k X.A) (hg : Gl X x) (hm : X.mg x = some (.ref fa)) (hb : KwB x st ps ks is) (hkw : PK X kws tk)
    (hall : (backToKw pos (keywordEach kws X.env)).all (·.1.isSome) = true) (hks : (backToKw pos (keywordEach kws X.env)).filterMap (·.1) = ks) (hdb : (x == ("__debug__" : Str)) = false)
    (hpl : ((backTo pos (starEach [] X.env)).any (·.1) || (backToKw pos (keywordEach kws X.env)).any (·.1.isNone)) = false) :
    PE X (.Call (.Name x p) [] kws pos) (tKw sp is ks.length tk) := by
  refine ⟨fun pins s σ H Q I h => ?_⟩
  refine wpAny_Call_Name_kw (ld_glob I hg hm ?_ hdb)
  refine PySem.W.callWith_KW0 (h₀ := X.base) I.ok.mod.kin Fu.kp hall ?_ hpl
  refine thn (hkw.run pos pins s σ H _ I h) fun ws s2 ⟨zs, H2, I2, rz, hl, vs, ep, q2⟩ => ⟨I2.kIn, ?_⟩
  rw [hks]
  obtain ⟨us, eu, ru⟩ := vals_pick rz is vs ep
  have hb' : BindsTo s2 fd ⟨[], ks.zip ws⟩ (ps.zip us) := by
    obtain ⟨oc, od, kV, doc, pm, an, cdv, ct, osl, rfl, lk, hcd⟩ := Fu.ex
    exact .of_eq (hb kV doc pm an cdv ct ws us (by rw [← rz.length]; exact hl) eu)
  refine wpAny_call (codeAny_mono (G.run X.A X.stack s2 H2 ⟨[], ks.zip ws⟩ us vs Q E0 hr I2.env0 hb' ru q2) fun r s' hq => ?_)
  cases r with
  | error e => exact pass0 pins σ H2 s2 e s' I2 hq
  | ok fl =>
    cases fl with
    | ret u => exact I2.after hq
    | next => exact False.elim hq
    | brk => exact False.elim hq
    | cont => exact False.elim hq
/-- what a def promises, at its own address -/
def FnV (P : Program) (w : World) (K : PySem.W.Frag) (mg : Str → Option Value) (base : Heap) (x : Str) (st : Stmt) (ps : List Str) (k : Nat) (F : List W → Tape → Option (W × Tape)) : Prop := ∀ f fd, Fun K x x st f fd → FnOk P w K mg base CX0 k f fd ps (spD P w F)
theorem fnv_mk {P : Program} {w : World} {K : PySem.W.Frag} {mg : Str → Option Value} {base : Heap} {N : List Str} {B : SF} (S : FnScope N ps (defScope st))
    (hbody : ∀ (f : Addr) (cdv : Value) (A : Around) (outer : List Env) (s : Shared) (H : Hp) (E : XK), Room k (A.deeper (envOfC x (defScope st) s.heap.objs.size f cdv)) →
      DSs (cxOf CX0 P w K mg base N x (defScope st) f cdv A outer s H E).nox (defBody st) B) : FnV P w K mg base x st ps (k + 1) (fnF ps.length N.length B) := fun f fd F => fn_ok F S fun cdv A outer s H E hr => hbody f cdv A outer s H E hr
theorem FnV.fn {P : Program} {w : World} {K : PySem.W.Frag} {mg : Str → Option Value} {base : Heap} (V : FnV P w K mg base x st ps k F) (D : Df K mg x st ps) : Fn P w K mg base x k F := by
  obtain ⟨f, fd, Fu, g, b⟩ := D
  exact ⟨f, fd, ps, V f fd Fu, g, Fu.kp, b⟩
theorem de_kw (V : FnV X.prog X.w X.K X.mg X.base x st ps k F) (D : Df X.K X.mg x st ps) (hr : Room j X.A) (hk : k ≤ j) (hg : Gl X x) (hb : KwB x st ps ks is) (hh : DKw X kws h)
    (hall : (backToKw pos (keywordEach kws X.env)).all (·.1.isSome) = true := by rfl) (hks : (backToKw pos (keywordEach kws X.env)).filterMap (·.1) = ks := by rfl) (hdb : (x == ("__debug__" : Str)) = false := by decide)
    (hpl : ((backTo pos (starEach [] X.env)).any (·.1) || (backToKw pos (keywordEach kws X.env)).any (·.1.isNone)) = false := by rfl) {n : Nat} (hlen : ks.length = n := by rfl) :
    DE X (.Call (.Name x p) [] kws pos) (callD F (permA n is h)) := by
  obtain ⟨fa, fd, Fu, hm, _⟩ := D
  refine (pe_kw Fu (V fa fd Fu) (hr.mono hk) hg hm hb hh hall hks hdb hpl).mono fun σ H Q ⟨T, M0, H0, M, ρ, τ, w, ρ', τ', S, ef, k⟩ => ?_
  unfold callD permA at ef
  cases e1 : h ρ τ with
  | none => rw [e1] at ef; cases ef
  | some r1 =>
    obtain ⟨ws, ρ1, τ1⟩ := r1
    rw [e1] at ef
    simp only [Option.bind_some] at ef
    by_cases hn : ws.length = n
    rotate_left
    · rw [if_neg hn] at ef; cases ef
    rw [if_pos hn] at ef
    cases e3 : pick is ws with
    | none => rw [e3] at ef; cases ef
    | some ws' =>
      rw [e3] at ef
      simp only [Option.map_some, Option.bind_some] at ef
      cases e2 : F ws' τ1 with
      | none => rw [e2] at ef; cases ef
      | some r2 =>
        obtain ⟨r, τ2⟩ := r2
        rw [e2] at ef
        cases ef
        refine ⟨T, M0, H0, M, ρ, τ, ws, _, τ1, S, e1, fun vs M1 H1 S1 x1 q1 => ?_⟩
        obtain ⟨vs', ev, rv⟩ := rw_pick q1 is ws' e3
        refine ⟨?_, vs', ev, T, M1, τ1, ws', _, _, S1.tp, S1.trk, rv, e2, fun v H' t kp r => ?_⟩
        · rw [q1.length, hn, hlen]
        · exact k v M1 H' (S1.called t kp) (x1.trans ⟨kp, fun _ m => m⟩) r
end
theorem ev_perm {n : Nat} {is : List Nat} {h : AF} {ρ ρ1 : EnvD} {τ τ1 : Tape} {ws us : List W} (h1 : h ρ τ = some (ws, ρ1, τ1)) (hn : ws.length = n) (h2 : pick is ws = some us) : permA n is h ρ τ = some (us, ρ1, τ1) := by
  unfold permA
  rw [h1]
  simp only [Option.bind_some]
  rw [if_pos hn, h2]
  rfl
end ND

set_option Elab.async false
set_option linter.all false
set_option maxRecDepth 100000
set_option maxHeartbeats 4000000
set_option pp.maxSteps 300
/-! more mirrors of the defs (printed by gen.py) -/
namespace ND
open PySem
-- 0 other, 1 spots, 2 prices, 3 thing, 4 some, 5 told, 6 row, 7 standing
def b_is_toil_paper : SF :=
    seqS (ifS (orB (notB (tst (un1 (isiW ["tuple"]) (bvar 3)))) (notB (tst (callF allF (consA (ofN (lcN (seqI (var 3)) (nameG 6) (yesB) (callD (f_is_entry) (consA (var 6) (nilA))) [6])) (nilA)))))) (retS (cst (.bool false))) (skipS)) <|
    seqS (setS 4 (callD (f_all_standings) (consA (var 0) (consA (var 1) (nilA))))) <|
    seqS (ifS (tst (op2 neW (ofN (lcN (seqI (var 3)) (nameG 6) (yesB) (op2 ixW (bvar 6) (cst (.int 0))) [6])) (bvar 4))) (retS (cst (.bool false))) (skipS)) <|
    seqS (ownKS 5 (dictPK (consA (var 3) (nilA)))) <|
    seqS (ifS (orB (tst (op2 (isNW false) (op2 ixD (bvar 5) (bvar 0)) (cst .none))) (tst (op2 gtW (op2 ixD (bvar 5) (bvar 0)) (cst (.int 0))))) (retS (cst (.bool false))) (skipS)) <|
    retS (callF allF (consA (ofN (lcN (seqI (var 4)) (nameG 7) (tst (op2 neW (bvar 7) (bvar 0))) (callD (f_falls) (consA (var 5) (consA (var 7) (consA (var 1) (consA (var 2) (nilA)))))) [7])) (nilA)))
def f_is_toil_paper : List W → Tape → Option (W × Tape) := fnF 4 8 b_is_toil_paper
-- 0 keys, 1 goal, 2 spots, 3 prices, 4 item, 5 row, 6 key, 7 told, 8 standing, 9 number, 10 move, 11 later
def b__law_is_paper : SF :=
    seqS (ifS (orB (notB (tst (un1 (isiW ["tuple"]) (bvar 4)))) (tst (op2 neW (callF lenF (consA (bvar 4) (nilA))) (callF lenF (consA (bvar 0) (nilA)))))) (retS (cst (.bool false))) (skipS)) <|
    seqS (forS (zipI (consA (var 4) (consA (var 0) (nilA)))) (tupG 2 (consG (nameG 5) (consG (nameG 6) (nilG)))) (seqS (ifS (orB (notB (tst (un1 (isiW ["tuple"]) (bvar 5)))) (orB (tst (op2 neW (callF lenF (consA (bvar 5) (nilA))) (cst (.int 2)))) (notB (tst (callD (f__law_like 20) (consA (op2 ixW (bvar 5) (cst (.int 0))) (consA (var 6) (nilA)))))))) (retS (cst (.bool false))) (skipS)) <|
    ifS (andB (tst (op2 (isNW true) (op2 ixW (bvar 5) (cst (.int 1))) (cst .none))) (notB (tst (callD (f__law_whole) (consA (op2 ixW (bvar 5) (cst (.int 1))) (nilA)))))) (retS (cst (.bool false))) (skipS))) <|
    seqS (ownKS 7 (dictPK (consA (var 4) (nilA)))) <|
    seqS (forS (seqI (var 0)) (nameG 8) (seqS (setS 9 (op2 ixD (bvar 7) (bvar 8))) <|
    seqS (ifS (tst (op2 eqW (bvar 8) (bvar 1))) (seqS (ifS (orB (tst (op2 (isNW false) (bvar 9) (cst .none))) (tst (op2 gtW (bvar 9) (cst (.int 0))))) (retS (cst (.bool false))) (skipS)) <|
    cntS) (skipS)) <|
    forS (seqI (callD (f__law_moves) (consA (var 8) (consA (var 2) (nilA))))) (nameG 10) (seqS (setS 11 (op2 ixD (bvar 7) (callD (f__law_moved) (consA (var 8) (consA (var 10) (nilA)))))) <|
    ifS (andB (tst (op2 (isNW true) (bvar 11) (cst .none))) (orB (tst (op2 (isNW false) (bvar 9) (cst .none))) (tst (op2 gtW (bvar 9) (op2 addW (bvar 11) (callD (f__law_price) (consA (var 10) (consA (var 3) (nilA))))))))) (retS (cst (.bool false))) (skipS)))) <|
    retS (cst (.bool true))
def f__law_is_paper : List W → Tape → Option (W × Tape) := fnF 5 12 b__law_is_paper
-- 0 standing, 1 prices, 2 many, 3 doll, 4 sole, 5 around, 6 one
def b__law_sole_right : SF :=
    seqS (setS 4 (callF tupleF (consA (ofN (lcN (rng2I (consA (cst (.int 1)) (consA (op2 addW (bvar 2) (cst (.int 1))) (nilA)))) (nameG 6) (yesB) (op2 mulW (cst (.int 7)) (callF intF (consA (op2 eqW (bvar 6) (bvar 3)) (nilA)))) [6])) (nilA)))) <|
    seqS (setS 5 (ofN (lcN (rng2I (consA (cst (.int 1)) (consA (op2 addW (bvar 2) (cst (.int 1))) (nilA)))) (nameG 6) (tst (op2 (inW false) (bvar 3) (callD (f__law_in) (consA (var 0) (consA (var 6) (nilA)))))) (var 6) [6]))) <|
    retS (op2 eqW (callD (f_least_wait) (consA (var 0) (consA (var 1) (consA (var 4) (nilA))))) (op2 mulW (cst (.int 7)) (callF (intsW sumG) (consA (ofN (lcN (seqI (op2 addW (bvar 5) (ofN (lstN (consA (var 3) (nilA)))))) (nameG 6) (yesB) (op2 ixW (bvar 1) (op2 subW (bvar 6) (cst (.int 1)))) [6])) (nilA)))))
def f__law_sole_right : List W → Tape → Option (W × Tape) := fnF 4 7 b__law_sole_right
-- 0 by, 1 one, 2 my_other, 3 my_prices, 4 due, 5 paper, 6 ends
def b__law_rows_right : SF :=
    seqS (parS [1, 2, 3] (consA (tupF (consA (tupF (consA (cst (.int 1)) (consA (cst (.int 2)) (nilA)))) (consA (tupF (consA (cst (.int 3)) (nilA))) (nilA)))) (consA (tupF (consA (tupF (consA (cst (.int 1)) (consA (cst (.int 3)) (nilA)))) (consA (tupF (consA (cst (.int 2)) (nilA))) (nilA)))) (consA (tupF (consA (cst (.int 1)) (consA (var 0) (consA (op2 mulW (cst (.int 2)) (bvar 0)) (nilA))))) (nilA))))) <|
    seqS (setS 4 (ofN (lstN (consA (tupF (consA (cst (.str "open")) (consA (cst (.int 2)) (nilA)))) (consA (tupF (consA (cst (.str "nest")) (consA (cst (.int 1)) (consA (cst (.int 3)) (nilA))))) (nilA)))))) <|
    seqS (ifS (tst (op2 neW (callD (f_moves) (permA 2 [0, 1] (consA (var 1) (consA (cst (.int 3)) (nilA))))) (ofN (lstN (consA (tupF (consA (cst (.str "nest")) (consA (cst (.int 2)) (consA (cst (.int 3)) (nilA))))) (consA (tupF (consA (cst (.str "open")) (consA (cst (.int 2)) (nilA)))) (nilA))))))) (retS (cst (.bool false))) (skipS)) <|
    seqS (ifS (tst (op2 neW (callD (f_moves) (permA 2 [1, 0] (consA (cst (.int 2)) (consA (var 1) (nilA))))) (ofN (lstN (consA (tupF (consA (cst (.str "nest")) (consA (cst (.int 2)) (consA (cst (.int 3)) (nilA))))) (nilA)))))) (retS (cst (.bool false))) (skipS)) <|
    seqS (ifS (tst (op2 neW (callD (f_least_row) (permA 4 [0, 1, 2, 3] (consA (var 1) (consA (var 2) (consA (cst (.int 3)) (consA (var 3) (nilA))))))) (bvar 4))) (retS (cst (.bool false))) (skipS)) <|
    seqS (ifS (tst (op2 neW (callD (f_toil_of) (permA 2 [0, 1] (consA (var 4) (consA (var 3) (nilA))))) (op2 mulW (cst (.int 3)) (bvar 0)))) (retS (cst (.bool false))) (skipS)) <|
    seqS (ifS (orB (tst (op2 (isNW true) (callD (f_least_row) (consA (var 1) (consA (var 2) (consA (cst (.int 2)) (consA (var 3) (nilA)))))) (cst .none))) (tst (op2 neW (callD (f_fewest_spots) (permA 2 [0, 1] (consA (var 1) (consA (var 2) (nilA))))) (cst (.int 3))))) (retS (cst (.bool false))) (skipS)) <|
    seqS (ifS (notB (tst (callD (f_is_fence) (consA (var 1) (consA (var 2) (consA (cst (.int 2)) (consA (callD (f_fence) (permA 3 [2, 1, 0] (consA (cst (.int 2)) (consA (var 2) (consA (var 1) (nilA)))))) (nilA)))))))) (retS (cst (.bool false))) (skipS)) <|
    seqS (ifS (notB (tst (callD (f_is_fence) (permA 4 [3, 2, 1, 0] (consA (tupF (consA (tupF (consA (tupF (consA (cst (.int 1)) (consA (cst (.int 2)) (nilA)))) (consA (tupF (consA (cst (.int 3)) (nilA))) (nilA)))) (consA (tupF (consA (tupF (consA (cst (.int 1)) (consA (cst (.int 2)) (consA (cst (.int 3)) (nilA))))) (nilA))) (nilA)))) (consA (cst (.int 2)) (consA (var 2) (consA (var 1) (nilA))))))))) (retS (cst (.bool false))) (skipS)) <|
    seqS (ifS (tst (op2 neW (callD (f_least_dearest) (permA 4 [0, 1, 2, 3] (consA (var 1) (consA (var 2) (consA (cst (.int 3)) (consA (var 3) (nilA))))))) (op2 mulW (cst (.int 2)) (bvar 0)))) (retS (cst (.bool false))) (skipS)) <|
    seqS (ifS (tst (op2 neW (callD (f_unlike) (permA 2 [1, 0] (consA (var 1) (consA (var 2) (nilA))))) (ofN (lstN (consA (cst (.int 2)) (consA (cst (.int 3)) (nilA))))))) (retS (cst (.bool false))) (skipS)) <|
    seqS (ifS (tst (op2 neW (callD (f_floor) (permA 3 [0, 1, 2] (consA (var 1) (consA (var 2) (consA (var 3) (nilA)))))) (op2 mulW (cst (.int 3)) (bvar 0)))) (retS (cst (.bool false))) (skipS)) <|
    seqS (ifS (tst (op2 neW (callD (f_comes_to) (permA 2 [0, 1] (consA (var 2) (consA (cst (.int 2)) (nilA))))) (ofN (lstN (consA (tupF (consA (tupF (consA (cst (.int 1)) (consA (cst (.int 3)) (nilA)))) (consA (tupF (consA (cst (.int 2)) (nilA))) (nilA)))) (nilA)))))) (retS (cst (.bool false))) (skipS)) <|
    seqS (setS 5 (callD (f_toil_paper) (permA 3 [2, 1, 0] (consA (var 3) (consA (cst (.int 2)) (consA (var 1) (nilA))))))) <|
    seqS (ifS (tst (op2 neW (bvar 5) (tupF (consA (tupF (consA (tupF (consA (tupF (consA (cst (.int 1)) (nilA))) (consA (tupF (consA (cst (.int 2)) (consA (cst (.int 3)) (nilA)))) (nilA)))) (consA (cst .none) (nilA)))) (consA (tupF (consA (tupF (consA (tupF (consA (cst (.int 1)) (consA (cst (.int 2)) (nilA)))) (consA (tupF (consA (cst (.int 3)) (nilA))) (nilA)))) (consA (cst (.int 0)) (nilA)))) (consA (tupF (consA (tupF (consA (tupF (consA (cst (.int 1)) (consA (cst (.int 2)) (consA (cst (.int 3)) (nilA))))) (nilA))) (consA (op2 mulW (cst (.int 2)) (bvar 0)) (nilA)))) (consA (tupF (consA (tupF (consA (tupF (consA (cst (.int 1)) (consA (cst (.int 3)) (nilA)))) (consA (tupF (consA (cst (.int 2)) (nilA))) (nilA)))) (consA (cst .none) (nilA)))) (nilA)))))))) (retS (cst (.bool false))) (skipS)) <|
    seqS (ifS (notB (tst (callD (f_is_toil_paper) (permA 4 [3, 2, 1, 0] (consA (var 5) (consA (var 3) (consA (cst (.int 2)) (consA (var 1) (nilA))))))))) (retS (cst (.bool false))) (skipS)) <|
    seqS (ifS (tst (op2 neW (callD (f_standings) (permA 1 [0] (consA (cst (.int 2)) (nilA)))) (ofN (lstN (consA (tupF (consA (tupF (consA (cst (.int 1)) (nilA))) (consA (tupF (consA (cst (.int 2)) (nilA))) (nilA)))) (consA (tupF (consA (tupF (consA (cst (.int 1)) (consA (cst (.int 2)) (nilA)))) (nilA))) (nilA))))))) (retS (cst (.bool false))) (skipS)) <|
    seqS (setS 6 (tupF (consA (callD (f_behind) (permA 3 [2, 1, 0] (consA (tupF (consA (cst (.str "open")) (consA (cst (.int 2)) (nilA)))) (consA (cst (.int 3)) (consA (var 1) (nilA)))))) (consA (callD (f_led) (permA 3 [2, 1, 0] (consA (var 4) (consA (cst (.int 3)) (consA (var 1) (nilA)))))) (nilA))))) <|
    retS (andE (op2 eqW (bvar 6) (tupF (consA (tupF (consA (tupF (consA (cst (.int 1)) (nilA))) (consA (tupF (consA (cst (.int 2)) (nilA))) (consA (tupF (consA (cst (.int 3)) (nilA))) (nilA))))) (consA (var 2) (nilA))))) (andE (op2 eqW (callD (f_within) (permA 2 [0, 1] (consA (var 1) (consA (cst (.int 2)) (nilA))))) (tupF (consA (cst (.int 1)) (nilA)))) (callD (f_is_standing) (permA 1 [0] (consA (var 1) (nilA))))))
def f__law_rows_right : List W → Tape → Option (W × Tape) := fnF 1 7 b__law_rows_right
-- 0 by, 1 sole, 2 told
def b__law_one_right : SF :=
    seqS (setS 1 (tupF (consA (tupF (consA (cst (.int 1)) (nilA))) (nilA)))) <|
    seqS (setS 2 (ofN (lstN (consA (callD (f_moves) (consA (var 1) (consA (cst (.int 1)) (nilA)))) (consA (callD (f_least_row) (consA (var 1) (consA (var 1) (consA (cst (.int 1)) (consA (tupF (consA (var 0) (nilA))) (nilA)))))) (consA (callD (f_toil_paper) (consA (var 1) (consA (cst (.int 1)) (consA (tupF (consA (var 0) (nilA))) (nilA))))) (consA (callD (f_fence) (consA (var 1) (consA (var 1) (consA (cst (.int 1)) (nilA))))) (nilA)))))))) <|
    seqS (ifS (orB (notB (tst (callD (f__law_like 20) (consA (var 2) (consA (ofN (lstN (consA (ofN (lstN (nilA))) (consA (ofN (lstN (nilA))) (consA (tupF (consA (tupF (consA (var 1) (consA (cst (.int 0)) (nilA)))) (nilA))) (consA (cst .none) (nilA))))))) (nilA)))))) (tst (op2 neW (callD (f_toil_of) (consA (ofN (lstN (nilA))) (consA (tupF (consA (var 0) (nilA))) (nilA)))) (cst (.int 0))))) (retS (cst (.bool false))) (skipS)) <|
    seqS (setS 2 (ofN (lstN (consA (callD (f_fewest_spots) (consA (var 1) (consA (var 1) (nilA)))) (consA (callD (f_least_dearest) (consA (var 1) (consA (var 1) (consA (cst (.int 1)) (consA (tupF (consA (var 0) (nilA))) (nilA)))))) (consA (callD (f_best_order) (consA (var 1) (consA (tupF (consA (var 0) (nilA))) (consA (tupF (consA (var 0) (nilA))) (nilA))))) (nilA))))))) <|
    seqS (ifS (orB (tst (op2 neW (bvar 2) (ofN (lstN (consA (cst (.int 1)) (consA (cst (.int 0)) (consA (tupF (consA (cst (.int 1)) (nilA))) (nilA)))))))) (tst (op2 neW (callD (f_finds_in) (consA (var 1) (consA (tupF (consA (var 0) (nilA))) (consA (tupF (consA (cst (.int 7)) (nilA))) (nilA))))) (tupF (consA (var 0) (consA (cst (.int 1)) (nilA))))))) (retS (cst (.bool false))) (skipS)) <|
    seqS (ifS (orB (tst (callD (f_is_toil_paper) (consA (var 1) (consA (cst (.int 1)) (consA (tupF (consA (var 0) (nilA))) (consA (tupF (consA (tupF (consA (var 1) (consA (cst .none) (nilA)))) (nilA))) (nilA))))))) (notB (tst (callD (f_is_toil_paper) (consA (var 1) (consA (cst (.int 1)) (consA (tupF (consA (var 0) (nilA))) (consA (tupF (consA (tupF (consA (var 1) (consA (un1 negF (bvar 0)) (nilA)))) (nilA))) (nilA))))))))) (retS (cst (.bool false))) (skipS)) <|
    retS (andE (op2 (isNW false) (callD (f_fence) (consA (tupF (consA (tupF (consA (cst (.int 1)) (nilA))) (consA (tupF (consA (cst (.int 2)) (nilA))) (nilA)))) (consA (tupF (consA (tupF (consA (cst (.int 1)) (consA (cst (.int 2)) (nilA)))) (nilA))) (consA (cst (.int 1)) (nilA))))) (cst .none)) (op2 (isNW true) (callD (f_fence) (consA (tupF (consA (tupF (consA (cst (.int 1)) (consA (cst (.int 2)) (nilA)))) (nilA))) (consA (tupF (consA (tupF (consA (cst (.int 1)) (nilA))) (consA (tupF (consA (cst (.int 2)) (nilA))) (nilA)))) (consA (cst (.int 1)) (nilA))))) (cst .none)))
def f__law_one_right : List W → Tape → Option (W × Tape) := fnF 1 3 b__law_one_right
-- 0 by, 1 my_standing, 2 my_prices, 3 my_chances, 4 paper, 5 like
def b__law_coins_right : SF :=
    seqS (unpS (tupF (consA (tupF (consA (tupF (consA (cst (.int 1)) (consA (cst (.int 3)) (nilA)))) (consA (tupF (consA (cst (.int 2)) (nilA))) (nilA)))) (consA (tupF (consA (cst (.int 1)) (consA (cst (.int 2)) (consA (cst (.int 1)) (nilA))))) (consA (tupF (consA (cst (.int 9)) (consA (cst (.int 5)) (consA (cst (.int 0)) (nilA))))) (nilA))))) (tupG 3 (consG (nameG 1) (consG (nameG 2) (consG (nameG 3) (nilG)))))) <|
    seqS (ifS (tst (op2 neW (callD (f_best_order) (permA 3 [0, 1, 2] (consA (var 1) (consA (var 2) (consA (var 3) (nilA)))))) (tupF (consA (cst (.int 3)) (consA (cst (.int 1)) (consA (cst (.int 2)) (nilA))))))) (retS (cst (.bool false))) (skipS)) <|
    seqS (ifS (tst (op2 neW (callD (f_least_wait) (permA 3 [0, 1, 2] (consA (var 1) (consA (var 2) (consA (var 3) (nilA)))))) (op2 addW (op2 mulW (cst (.int 9)) (cst (.int 2))) (op2 mulW (cst (.int 5)) (cst (.int 4)))))) (retS (cst (.bool false))) (skipS)) <|
    seqS (ifS (tst (op2 neW (callD (f_finds_in) (permA 3 [0, 1, 2] (consA (var 1) (consA (var 2) (consA (var 3) (nilA)))))) (tupF (consA (cst (.int 19)) (consA (cst (.int 7)) (nilA)))))) (retS (cst (.bool false))) (skipS)) <|
    seqS (setS 4 (tupF (consA (tupF (consA (tupF (consA (cst (.int 3)) (consA (cst (.int 1)) (nilA)))) (nilA))) (consA (tupF (consA (tupF (consA (cst (.int 2)) (nilA))) (nilA))) (nilA))))) <|
    seqS (ifS (tst (op2 neW (callD (f_coin_shown) (permA 4 [0, 1, 2, 3] (consA (var 1) (consA (var 2) (consA (var 3) (consA (var 4) (nilA))))))) (cst (.int 38)))) (retS (cst (.bool false))) (skipS)) <|
    seqS (ifS (tst (op2 (isNW true) (callD (f_coin_shown) (consA (var 1) (consA (var 2) (consA (var 3) (consA (tupF (consA (tupF (consA (tupF (consA (cst (.int 3)) (nilA))) (consA (tupF (consA (cst (.int 1)) (nilA))) (nilA)))) (consA (tupF (consA (tupF (consA (cst (.int 2)) (nilA))) (nilA))) (nilA)))) (nilA)))))) (cst .none))) (retS (cst (.bool false))) (skipS)) <|
    seqS (ifS (tst (op2 neW (callD (f_wait_of) (permA 4 [0, 1, 2, 3] (consA (var 1) (consA (var 2) (consA (var 3) (consA (tupF (consA (cst (.int 2)) (consA (cst (.int 3)) (consA (cst (.int 1)) (nilA))))) (nilA))))))) (op2 addW (op2 mulW (cst (.int 5)) (cst (.int 2))) (op2 mulW (cst (.int 9)) (cst (.int 4)))))) (retS (cst (.bool false))) (skipS)) <|
    seqS (setS 5 (callD (f_best_order) (consA (tupF (consA (tupF (consA (cst (.int 1)) (nilA))) (consA (tupF (consA (cst (.int 2)) (nilA))) (consA (tupF (consA (cst (.int 3)) (nilA))) (nilA))))) (consA (tupF (consA (var 0) (consA (var 0) (consA (var 0) (nilA))))) (consA (tupF (consA (var 0) (consA (var 0) (consA (var 0) (nilA))))) (nilA)))))) <|
    retS (andE (op2 eqW (bvar 5) (tupF (consA (cst (.int 1)) (consA (cst (.int 2)) (consA (cst (.int 3)) (nilA)))))) (op2 eqW (callD (f_coin_paper) (permA 3 [0, 1, 2] (consA (tupF (consA (tupF (consA (cst (.int 1)) (nilA))) (nilA))) (consA (tupF (consA (var 0) (nilA))) (consA (tupF (consA (var 0) (nilA))) (nilA)))))) (tupF (consA (tupF (consA (tupF (consA (cst (.int 1)) (nilA))) (nilA))) (nilA)))))
def f__law_coins_right : List W → Tape → Option (W × Tape) := fnF 1 6 b__law_coins_right
end ND

set_option Elab.async false
set_option linter.all false
set_option maxRecDepth 100000
set_option maxHeartbeats 4000000
set_option pp.maxSteps 300
/-! the mirror of law k16 (printed by gen.py) -/
namespace ND
open PySem
-- 0 script, 1 tape, 2 turn, 3 by
def lk16_2_1 : SF := ifS (orB (notB (tst (callD (f__law_rows_right) (consA (var 3) (nilA))))) (orB (notB (tst (callD (f__law_coins_right) (consA (var 3) (nilA))))) (notB (tst (callD (f__law_one_right) (consA (var 3) (nilA))))))) (retS (cst (.bool false))) (skipS)
def lk16_2_0 : SF := seqS (setS 3 (op2 addW (cst (.int 1)) (callD (f__law_drawv1) (consA (var 1) (consA (cst (.int 50)) (nilA)))))) lk16_2_1
def lk16_1_1 : SF := retS (cst (.bool true))
def lk16_1_0 : SF := seqS (forS (rng1I (consA (cst (.int 3)) (nilA))) (nameG 2) (lk16_2_0)) lk16_1_1
def b_law_k16 : SF :=
    lk16_1_0
end ND

set_option Elab.async false
set_option linter.all false
set_option maxRecDepth 100000
set_option maxHeartbeats 4000000
/-! C1: draws; drawn standings -/
namespace ND
open PySem
def τ0 : Tape := ⟨[], 0, 0⟩
def TOk (τ : Tape) : Prop := 0 ≤ τ.pos ∧ 0 ≤ τ.cur
theorem atI_ok {α : Type} {xs : List α} {k : Int} (h0 : 0 ≤ k) (h : k < xs.length) : ∃ x, L2.atI xs k = some x ∧ xs[k.toNat]? = some x := by
  obtain ⟨n, rfl⟩ := Int.eq_ofNat_of_zero_le h0
  have h' : n < xs.length := by omega
  exact ⟨xs[n], L2.atI_nat (List.getElem?_eq_getElem h'), List.getElem?_eq_getElem h'⟩
theorem draw_ok {m : Int} (hm : 0 < m) (hm2 : m < 18446744073709551616) {τ : Tape} (t : TOk τ) {Q : W → Tape → Prop} (q : ∀ r τ', 0 ≤ r → r < m → TOk τ' → Q (.dat (.int r)) τ') : wF f__law_draw [.tape, .dat (.int m)] τ Q := by
  have fin : ∀ n p : Int, 0 ≤ n → 0 ≤ p → 0 < m ∧ (0 < m ∧ m < 18446744073709551616) ∧ Q (W.dat (PyData.int (n % m))) { cells := τ.cells, pos := p, cur := n / m } := fun n p hn hp =>
    ⟨hm, ⟨hm, hm2⟩, q _ _ (Int.emod_nonneg _ (by omega)) (Int.emod_lt_of_pos _ hm) ⟨hp, Int.ediv_nonneg hn (by omega)⟩⟩
  have md : ∀ a : Int, (a % 2305843009213693951).natAbs < 18446744073709551616 ∧ 0 ≤ a % 2305843009213693951 := fun a => by omega
  obtain ⟨hp, hc⟩ := t
  unfold f__law_draw
  refine (wF_fn (by rfl)).mpr ?_
  simp [b__law_draw, startD, wV_mapW, thenQ_nx]
  split
  · split
    · next hl =>
      have h0 : 0 ≤ τ.pos % (τ.cells.length : Int) := Int.emod_nonneg _ (by omega)
      have h1 : τ.pos % (τ.cells.length : Int) < ((τ.cells.map PyData.int).length : Int) := by
        rw [List.length_map]
        exact Int.emod_lt_of_pos _ (by omega)
      obtain ⟨x, ex, ex2⟩ := atI_ok h0 h1
      rw [List.getElem?_map] at ex2
      cases ec : τ.cells[(τ.pos % (τ.cells.length : Int)).toNat]? with
      | none => rw [ec] at ex2; cases ex2
      | some c =>
        rw [ec] at ex2
        cases ex2
        refine ⟨hl, ?_⟩
        rw [ex, wV_some]
        split
        · simp
          exact ⟨(md _).1, (md _).1, fin _ _ (md _).2 (by omega)⟩
        · simp
          split
          · exact ⟨(md _).1, (md _).1, fin _ _ (md _).2 (by omega)⟩
          · exact fin _ _ (by omega) (by omega)
    · exact ⟨(md _).1, (md _).1, fin _ _ (md _).2 (by omega)⟩
  · exact fin _ _ hc hp
theorem cut1 (xs : List PyData) : cutD xs (some 1) none = xs.tail := by
  unfold cutD
  rw [show HT.sIx xs.length 0 (some 1) = min 1 xs.length from HT.sIx_nat xs.length 0 1, HT.sIx_none]
  cases xs with
  | nil => rfl
  | cons x r =>
    rw [show min 1 (x :: r).length = 1 by rw [List.length_cons]; omega]
    show (List.take ((x :: r).length - 1) r) = r
    rw [List.length_cons, Nat.add_sub_cancel]
    exact List.take_length
theorem rangeD_ints (lo : Int) (n : Nat) : rangeD lo n = ((List.range n).map fun (i : Nat) => lo + (i : Int)).map .int := by
  unfold rangeD
  rw [List.map_map]
  rfl
def tI (ns : List Int) : PyData := .tuple (ns.map .int)
theorem atI_all {α : Type} {xs : List α} {k : Int} {P : α → Prop} (h0 : 0 ≤ k) (h : k < xs.length) (hx : ∀ x ∈ xs, P x) : ∃ x, L2.atI xs k = some x ∧ P x := by
  obtain ⟨x, e, e2⟩ := atI_ok h0 h
  exact ⟨x, e, hx x (List.mem_of_getElem? e2)⟩
theorem wN_lcR {ρ : EnvD} {τ : Tape} {f : EF} {p : BF} {g : GF} {vs : List Nat} {Q : List PyData → EnvD → Tape → Prop} {ds : List PyData} (P : PyData → Prop) (T : Tape → Prop) (ht : T τ)
    (h : ∀ d ∈ ds, ∀ τ, T τ → ∃ ρ1, g d ρ = some ρ1 ∧ p ρ1 τ = some (true, ρ1, τ) ∧ wE f ρ1 τ fun w ρ2 τ2 => ∃ x, w = .dat x ∧ P x ∧ T τ2 ∧ wipeD ρ2 vs = ρ)
    (q : ∀ out τ', out.length = ds.length → (∀ x ∈ out, P x) → T τ' → Q out ρ τ') : wN (lcL g p f vs ds) ρ τ Q := by
  induction ds generalizing Q τ with
  | nil => exact wN_lcN.mpr (q [] τ rfl (by simp) ht)
  | cons d ds ih =>
    obtain ⟨ρ1, e1, e2, w, ρ2, τ2, e3, x, rfl, px, t2, e4⟩ := h d List.mem_cons_self τ ht
    rw [wN_lcC]
    refine ⟨ρ1, e1, ?_⟩
    show wB p ρ1 τ _
    rw [wB_iff, e2, wV_some]
    simp only [if_true]
    rw [wE_iff, e3, wV_some]
    show wN _ (wipeD ρ2 vs) τ2 _
    rw [e4]
    exact ih t2 (fun d m => h d (List.mem_cons_of_mem _ m)) fun out τ' hl hp t' => q (x :: out) τ' (by simp [hl]) (fun y m => by rcases List.mem_cons.mp m with rfl | m; exact px; exact hp y m) t'
def tS (s : List (List Int)) : PyData := .tuple (s.map tI)
def addDoll (d : Int) (s : List (List Int)) : List (List (List Int)) := (s ++ [[d]]) :: (List.range s.length).map fun k => s.set k (s.getD k [] ++ [d])
/-- all standings of n dolls -/
def rawSt : Nat → List (List (List Int))
  | 0 => [[]]
  | n + 1 => (rawSt n).flatMap (addDoll ((n : Int) + 1))
def adjLe : List PyData → Bool
  | x :: y :: r => leD x y && adjLe (y :: r)
  | _ => true
theorem isort_id : ∀ l : List PyData, adjLe l = true → sortD l = l
  | [], _ => rfl
  | [x], _ => rfl
  | x :: y :: r, h => by
    simp only [adjLe, Bool.and_eq_true] at h
    have ih : isort leD (y :: r) = y :: r := isort_id (y :: r) h.2
    show isort.ins leD x (isort leD (y :: r)) = _
    rw [ih]
    show (if leD x y = true then _ else _) = _
    rw [if_pos h.1]
theorem rawSt_sorted : ((List.range 7).all fun n => (rawSt n).all fun s => sortOk (s.map tI) && (adjLe (s.map tI) && decide (s.length ≤ 6) && s.all fun x => decide (x.length ≤ 6))) = true := by decide +kernel
theorem rawSt_ok {n : Nat} {s : List (List Int)} (hn : n ≤ 6) (h : s ∈ rawSt n) : sortOk (s.map tI) = true ∧ sortD (s.map tI) = s.map tI ∧ s.length ≤ 6 ∧ ∀ x ∈ s, x.length ≤ 6 := by
  have := List.all_eq_true.mp (List.all_eq_true.mp rawSt_sorted n (List.mem_range.mpr (by omega))) s h
  simp only [Bool.and_eq_true, decide_eq_true_eq, List.all_eq_true] at this
  exact ⟨this.1, isort_id _ this.2.1.1, this.2.1.2, this.2.2⟩
theorem rangeD_succ (lo : Int) (n : Nat) : rangeD lo (n + 1) = .int lo :: rangeD (lo + 1) n := by
  unfold rangeD
  rw [List.range_succ_eq_map, List.map_cons, List.map_map]
  congr 1
  · simp
  · apply List.map_congr_left
    intro a _
    simp
    omega
theorem ixN_nat {k : Int} {n : Nat} (h0 : 0 ≤ k) (h : k < n) : L2.ixN n k = some k.toNat := by
  obtain ⟨z, rfl⟩ := Int.eq_ofNat_of_zero_le h0
  simp [L2.ixN] at h ⊢
  omega
/-- a loop by an invariant over what is left; what the body leads to is a name -/
theorem wS_forJ {ρ : EnvD} {τ : Tape} {F : SF} {g : GF} {Q : Out → Prop} (I : List PyData → EnvD → Tape → Prop) {ds : List PyData} (h0 : I ds ρ τ) (hd : ∀ ρ τ, I [] ρ τ → Q (.nx ρ τ))
    (hs : ∀ d rest ρ τ (Q' : Out → Prop), I (d :: rest) ρ τ → (∀ ρ' τ', I rest ρ' τ' → Q' (.nx ρ' τ')) → (∀ ρ' τ', I rest ρ' τ' → Q' (.ct ρ' τ')) → (∀ ρ' τ', Q (.nx ρ' τ') → Q' (.bk ρ' τ')) → (∀ w τ', Q (.rt w τ') → Q' (.rt w τ')) →
      ∃ ρ1, g d ρ = some ρ1 ∧ wS F ρ1 τ Q') : wS (forL g F ds) ρ τ Q :=
  wS_forI I h0 hd fun d rest ρ τ h => hs d rest ρ τ _ h (fun _ _ z => z) (fun _ _ z => z) (fun _ _ z => z) fun _ _ z => z
theorem standing_ok (many : Nat) (hm : many ≤ 6) {τ : Tape} (t : TOk τ) {Q : W → Tape → Prop} (q : ∀ s τ', s ∈ rawSt many → TOk τ' → Q (.dat (tS s)) τ') : wF f__law_standing [.tape, .dat (.int many)] τ Q := by
  unfold f__law_standing
  refine (wF_fn (by rfl)).mpr ?_
  simp only [b__law_standing, startD]
  rw [wS_seq]
  simp
  rw [thenQ_nx, wS_seq]
  simp
  refine ⟨by omega, ?_⟩
  refine wS_forJ (fun rest ρ t => TOk t ∧ ∃ k s s3 s4, k ≤ many ∧ rest = rangeD (1 + (k : Int)) (many - k) ∧ s ∈ rawSt k ∧ ρ = [some (.val .tape), some (.val (.dat (.int many))), some (.own (s.map tI)), s3, s4]) ?_ ?_ ?_
  · exact ⟨t, 0, [], none, none, Nat.zero_le _, by simp, by simp [rawSt], rfl⟩
  · rintro ρ t ⟨t, k, s, s3, s4, hk, hr, hs, rfl⟩
    have : many - k = 0 := by
      cases e : many - k with
      | zero => rfl
      | succ j => rw [e, rangeD_succ] at hr; cases hr
    have : k = many := by omega
    subst this
    rw [thenQ_nx]
    obtain ⟨h1, h2, _⟩ := rawSt_ok hm hs
    simp
    rw [h2]
    exact ⟨h1, q s _ hs t⟩
  · rintro d rest ρ t Q' ⟨t, k, s, s3, s4, hk, hr, hs, rfl⟩ hnx _ _ _
    cases e : many - k with
    | zero => rw [e] at hr; cases hr
    | succ j =>
      rw [e, rangeD_succ] at hr
      cases hr
      obtain ⟨_, _, hl, hl2⟩ := rawSt_ok (by omega) hs
      refine ⟨_, rfl, ?_⟩
      rw [wS_seq]
      simp
      refine draw_ok (by omega) (by omega) t fun r τ2 r0 r1 t2 => ?_
      rw [thenQ_nx]
      simp
      have hnext : ∀ s' : List (List Int), s' ∈ addDoll ((k : Int) + 1) s → s' ∈ rawSt (k + 1) := fun s' h => by
        show s' ∈ (rawSt k).flatMap _
        exact List.mem_flatMap.mpr ⟨s, hs, h⟩
      split
      · next hlt =>
        have hlt' : r.toNat < s.length := by omega
        have ex : L2.atI (s.map tI) r = some (tI s[r.toNat]) := by
          obtain ⟨x, e1, e2⟩ := atI_ok (xs := s.map tI) r0 (by simpa using hlt)
          rw [e1]
          rw [List.getElem?_map, List.getElem?_eq_getElem hlt'] at e2
          exact e2.symm
        rw [ex]
        simp [tI]
        have := hl2 s[r.toNat] (List.getElem_mem hlt')
        refine ⟨by omega, ?_⟩
        rw [ixN_nat r0 (by omega)]
        simp
        refine hnx _ _ ⟨t2, k + 1, s.set r.toNat (s.getD r.toNat [] ++ [(k : Int) + 1]), some (.val (.dat (.int (1 + (k : Int))))), some (.val (.dat (.int r))), by omega, ?_, ?_, ?_⟩
        · rw [show many - (k + 1) = j by omega, show (1 : Int) + (k : Int) + 1 = 1 + ((k + 1 : Nat) : Int) by omega]
        · exact hnext _ (List.mem_cons_of_mem _ (List.mem_map.mpr ⟨r.toNat, List.mem_range.mpr hlt', rfl⟩))
        · rw [List.map_set, List.getD_eq_getElem?_getD, List.getElem?_eq_getElem hlt', Int.add_comm (k : Int) 1]
          simp [tI]
      · refine ⟨by omega, ?_⟩
        refine hnx _ _ ⟨t2, k + 1, s ++ [[(k : Int) + 1]], some (.val (.dat (.int (1 + (k : Int))))), some (.val (.dat (.int r))), by omega, ?_, hnext _ List.mem_cons_self, ?_⟩
        · rw [show many - (k + 1) = j by omega, show (1 : Int) + (k : Int) + 1 = 1 + ((k + 1 : Nat) : Int) by omega]
        · rw [Int.add_comm (k : Int) 1]
          simp [tI]

end ND

set_option Elab.async false
set_option linter.all false
set_option maxRecDepth 100000
set_option maxHeartbeats 4000000
/-! C2: data that are whole numbers, tuples of such, tuples of these: equality, in, slices -/
namespace ND
open PySem PySem.SeqAt
theorem shaped_intsT (ns : List Int) : shaped (.tuple (ns.map .int)) = true := by
  have h : ∀ ns : List Int, PyData.canLayAll0 (ns.map .int) = true ∧ PyData.depthAll (ns.map .int) = 0 := fun ns => by
    induction ns with
    | nil => exact ⟨rfl, rfl⟩
    | cons n ns ih => exact ⟨by simp [PyData.canLayAll0, PyData.canLay0, ih.1], by simp [PyData.depthAll, PyData.depth, ih.2]⟩
  unfold shaped
  simp [PyData.canLay0, PyData.depth, (h ns).1, (h ns).2]
theorem any_ints (ns : List Int) (d : Int) : ((ns.map PyData.int).any fun z => PyData.eqv z (.int d)) = ns.contains d := by
  induction ns with
  | nil => rfl
  | cons n ns ih =>
    rw [List.map_cons, List.any_cons, ih, List.contains_cons]
    congr 1
    show (n == d) = (d == n)
    exact Bool.eq_iff_iff.mpr ⟨fun h => by simpa using (by simpa using h : n = d).symm, fun h => by simpa using (by simpa using h : d = n).symm⟩
theorem inW_ints (neg : Bool) (ns : List Int) (d : Int) : inW neg (.dat (.int d)) (.dat (tI ns)) = some (.dat (.bool (neg ^^ ns.contains d))) := by
  show Option.map W.dat (inP neg (.int d) (.tuple (ns.map .int))) = _
  unfold inP
  dsimp only
  rw [if_pos ⟨rfl, shaped_intsT ns⟩, any_ints]
  rfl
theorem ixOf_ints (d : Int) : ∀ ns : List Int, ns.contains d = true → ixOf (.int d) (ns.map .int) = some (ns.takeWhile fun x => !(x == d)).length
  | [], h => by simp at h
  | n :: ns, h => by
    show (if PyData.eqv (.int n) (.int d) = true then some 0 else _) = _
    by_cases e : n = d
    · subst e
      rw [if_pos (by simp [PyData.eqv])]
      simp
    · rw [if_neg (by simp [PyData.eqv, e]), ixOf_ints d ns (by
        rw [List.contains_cons] at h
        simpa [Ne.symm e] using h)]
      rw [List.takeWhile_cons_of_pos (by simp [e])]
      rfl
theorem take_while (d : Int) (ns : List Int) : ns.take (ns.takeWhile fun x => !(x == d)).length = ns.takeWhile fun x => !(x == d) := by
  induction ns with
  | nil => rfl
  | cons n ns ih =>
    by_cases e : n = d
    · subst e; simp
    · rw [List.takeWhile_cons_of_pos (by simp [e]), List.length_cons, List.take_succ_cons, ih]
theorem cut_take (xs : List PyData) (j : Nat) (h : j ≤ xs.length) : cutD xs none (some (j : Int)) = xs.take j := by
  unfold cutD
  rw [HT.sIx_none, HT.sIx_nat, Nat.min_eq_left h]
  simp
theorem eqW_str (x y : Str) (hx : shaped (.str x) = true) (hy : shaped (.str y) = true) : eqW (.dat (.str x)) (.dat (.str y)) = some (.dat (.bool (x == y))) := by
  rw [eqW_data hx hy]
  rfl
theorem eqvAll_ints : ∀ a b : List Int, PyData.eqvAll (a.map .int) (b.map .int) = decide (a = b)
  | [], [] => by simp [PyData.eqvAll]
  | [], y :: b => by simp [PyData.eqvAll]
  | x :: a, [] => by simp [PyData.eqvAll]
  | x :: a, y :: b => by
    simp only [List.map_cons, PyData.eqvAll, eqvAll_ints a b, PyData.eqv]
    by_cases h : x = y <;> by_cases h2 : a = b <;> simp [h, h2]
theorem eqv_tI (a b : List Int) : PyData.eqv (tI a) (tI b) = decide (a = b) := by
  show PyData.eqv (.tuple _) (.tuple _) = _
  simp only [PyData.eqv]
  exact eqvAll_ints a b
theorem eqvAll_tI : ∀ a b : List (List Int), PyData.eqvAll (a.map tI) (b.map tI) = decide (a = b)
  | [], [] => by simp [PyData.eqvAll]
  | [], y :: b => by simp [PyData.eqvAll]
  | x :: a, [] => by simp [PyData.eqvAll]
  | x :: a, y :: b => by
    simp only [List.map_cons, PyData.eqvAll, eqvAll_tI a b, eqv_tI]
    by_cases h : x = y <;> by_cases h2 : a = b <;> simp [h, h2]
theorem eqv_tS (a b : List (List Int)) : PyData.eqv (tS a) (tS b) = decide (a = b) := by
  show PyData.eqv (.tuple _) (.tuple _) = _
  simp only [PyData.eqv]
  exact eqvAll_tI a b
theorem lay_tI (ns : List Int) : (tI ns).canLay0 = true ∧ (tI ns).depth = 1 := by
  have h : ∀ ns : List Int, PyData.canLayAll0 (ns.map .int) = true ∧ PyData.depthAll (ns.map .int) = 0 := fun ns => by
    induction ns with
    | nil => exact ⟨rfl, rfl⟩
    | cons n ns ih => exact ⟨by simp [PyData.canLayAll0, PyData.canLay0, ih.1], by simp [PyData.depthAll, PyData.depth, ih.2]⟩
  unfold tI
  simp [PyData.canLay0, PyData.depth, (h ns).1, (h ns).2]
theorem lay_tS (s : List (List Int)) : (tS s).canLay0 = true ∧ (tS s).depth ≤ 2 := by
  have h : ∀ s : List (List Int), PyData.canLayAll0 (s.map tI) = true ∧ PyData.depthAll (s.map tI) ≤ 1 := fun s => by
    induction s with
    | nil => exact ⟨rfl, by simp [PyData.depthAll]⟩
    | cons n s ih =>
      obtain ⟨h1, h2⟩ := lay_tI n
      simp only [List.map_cons, PyData.canLayAll0, PyData.depthAll, h1, ih.1, h2]
      exact ⟨rfl, by have := ih.2; omega⟩
  unfold tS
  simp only [PyData.canLay0, PyData.depth, (h s).1]
  have := (h s).2
  exact ⟨trivial, by omega⟩
theorem shaped_tI (ns : List Int) : shaped (tI ns) = true := shaped_intsT ns
theorem shaped_tS (s : List (List Int)) : shaped (tS s) = true := by
  unfold shaped
  rw [(lay_tS s).1]
  have := (lay_tS s).2
  simp
  omega
theorem neW_tI (a b : List Int) : neW (.dat (tI a)) (.dat (tI b)) = some (.dat (.bool (!decide (a = b)))) := by rw [neW_data (shaped_tI a) (shaped_tI b), eqv_tI]
theorem neW_tS (a b : List (List Int)) : neW (.dat (tS a)) (.dat (tS b)) = some (.dat (.bool (!decide (a = b)))) := by rw [neW_data (shaped_tS a) (shaped_tS b), eqv_tS]
theorem eqW_tI (a b : List Int) : eqW (.dat (tI a)) (.dat (tI b)) = some (.dat (.bool (decide (a = b)))) := by rw [eqW_data (shaped_tI a) (shaped_tI b), eqv_tI]
theorem eqW_tS (a b : List (List Int)) : eqW (.dat (tS a)) (.dat (tS b)) = some (.dat (.bool (decide (a = b)))) := by rw [eqW_data (shaped_tS a) (shaped_tS b), eqv_tS]
theorem cut_drop (xs : List PyData) (j : Nat) (h : j ≤ xs.length) : cutD xs (some (j : Int)) none = xs.drop j := by
  unfold cutD
  rw [HT.sIx_none, HT.sIx_nat, Nat.min_eq_left h, List.take_of_length_le]
  rw [List.length_drop]
  omega
theorem sl_take {α : Type} (enc : α → PyData) (xs : List α) (j : Nat) (h : j ≤ xs.length) : slP (.list (xs.map enc)) none (some (j : Int)) = some (.list ((xs.take j).map enc)) := by
  show some (PyData.list (cutD (xs.map enc) none (some (j : Int)))) = _
  rw [cut_take _ _ (by rw [List.length_map]; exact h), List.map_take]
theorem sl_drop {α : Type} (enc : α → PyData) (xs : List α) (j : Nat) (h : j ≤ xs.length) : slP (.list (xs.map enc)) (some (j : Int)) none = some (.list ((xs.drop j).map enc)) := by
  show some (PyData.list (cutD (xs.map enc) (some (j : Int)) none)) = _
  rw [cut_drop _ _ (by rw [List.length_map]; exact h), List.map_drop]
theorem slT_take (xs : List Int) (j : Nat) (h : j ≤ xs.length) : slP (tI xs) none (some (j : Int)) = some (tI (xs.take j)) := by
  show some (PyData.tuple (cutD (xs.map PyData.int) none (some (j : Int)))) = _
  rw [cut_take _ _ (by rw [List.length_map]; exact h), ← List.map_take]
  rfl
theorem slT_drop (xs : List Int) (j : Nat) (h : j ≤ xs.length) : slP (tI xs) (some (j : Int)) none = some (tI (xs.drop j)) := by
  show some (PyData.tuple (cutD (xs.map PyData.int) (some (j : Int)) none)) = _
  rw [cut_drop _ _ (by rw [List.length_map]; exact h), ← List.map_drop]
  rfl
theorem slT_tail (xs : List Int) : slP (tI xs) (some 1) none = some (tI xs.tail) := by
  show some (PyData.tuple (cutD (xs.map PyData.int) (some 1) none)) = _
  rw [cut1, ← List.map_tail]
  rfl
theorem slT_one (xs : List Int) : slP (tI xs) none (some 1) = some (tI (xs.take 1)) := by
  show some (PyData.tuple (cutD (xs.map PyData.int) none (some 1))) = _
  cases xs with
  | nil => rfl
  | cons x r =>
    rw [show (1 : Int) = ((1 : Nat) : Int) from rfl, cut_take _ 1 (by simp), ← List.map_take]
    rfl
theorem revW_tI (xs : List Int) : revW (.dat (tI xs)) = some (.dat (tI xs.reverse)) := by
  show some (W.dat (.tuple (xs.map PyData.int).reverse)) = _
  rw [← List.map_reverse]
  rfl
abbrev vd (d : PyData) : Option Sl := some (.val (.dat d))
abbrev vo (ds : List PyData) : Option Sl := some (.own ds)
theorem ev_both {c : Bool} {x y : Option (W × EnvD × Tape)} {a b : PyData} {ρ : EnvD} {τ : Tape} (h1 : x = some (.dat a, ρ, τ)) (h2 : y = some (.dat b, ρ, τ)) : (if c = true then x else y) = some (.dat (if c = true then a else b), ρ, τ) := by
  cases c
  · exact h2
  · exact h1
theorem keepVal_none : keepVal (some none) = none := rfl
theorem keepVal_val {w : W} : keepVal (some (some (.val w))) = some (.val w) := rfl
theorem all_bools {α : Type} (b : α → Bool) (l : List α) : allF [.dat (.list (l.map fun a => .bool (b a)))] = some (.dat (.bool (l.all b))) := by
  have e : (l.map fun a => PyData.bool (b a)) = (l.map b).map .bool := by rw [List.map_map]; rfl
  rw [allF_list, e, bools_ok]
  simp only [Option.map_some]
  congr 3
  rw [List.all_map]
  rfl
theorem any_bools {α : Type} (b : α → Bool) (l : List α) : anyF [.dat (.list (l.map fun a => .bool (b a)))] = some (.dat (.bool (l.any b))) := by
  have e : (l.map fun a => PyData.bool (b a)) = (l.map b).map .bool := by rw [List.map_map]; rfl
  rw [anyF_list, e, bools_ok]
  simp only [Option.map_some]
  congr 3
  rw [List.any_map]
  rfl
theorem lenF_tI (l : List Int) : lenF [.dat (tI l)] = some (.dat (.int (l.length : Int))) := by show some (W.dat (.int ((l.map PyData.int).length : Int))) = _; rw [List.length_map]
theorem lenF_tS (l : List (List Int)) : lenF [.dat (tS l)] = some (.dat (.int (l.length : Int))) := by show some (W.dat (.int ((l.map tI).length : Int))) = _; rw [List.length_map]
theorem lenF_map {α : Type} (enc : α → PyData) (l : List α) : lenF [.dat (.list (l.map enc))] = some (.dat (.int (l.length : Int))) := by show some (W.dat (.int ((l.map enc).length : Int))) = _; rw [List.length_map]
/-! loops by equations -/
section
variable {ρ ρ1 ρ2 : EnvD} {τ τ1 τ2 : Tape} {F : SF} {p : BF} {o : Out}
theorem ev_forN {g : GF} : forL g F [] ρ τ = some (.nx ρ τ) := rfl
theorem ev_forC {g : GF} {d : PyData} {ds : List PyData} (hg : g d ρ = some ρ1) (hF : F ρ1 τ = some (.nx ρ2 τ1)) (h : forL g F ds ρ2 τ1 = some o) : forL g F (d :: ds) ρ τ = some o := by
  unfold forL; rw [hg]; simp only [Option.bind_some]; rw [hF]; exact h
theorem ev_forBk {g : GF} {d : PyData} {ds : List PyData} (hg : g d ρ = some ρ1) (hF : F ρ1 τ = some (.bk ρ2 τ1)) : forL g F (d :: ds) ρ τ = some (.nx ρ2 τ1) := by
  unfold forL; rw [hg]; simp only [Option.bind_some]; rw [hF]; rfl
theorem ev_forRt {g : GF} {d : PyData} {ds : List PyData} {w : W} (hg : g d ρ = some ρ1) (hF : F ρ1 τ = some (.rt w τ1)) : forL g F (d :: ds) ρ τ = some (.rt w τ1) := by
  unfold forL; rw [hg]; simp only [Option.bind_some]; rw [hF]; rfl
/-- a loop whose turns go on, by a state -/
theorem ev_fold {α S : Type} {enc : α → PyData} {env : S → EnvD} {step : S → α → S} {g : GF} (P : S → Prop) : ∀ (l : List α) (s : S), P s → (∀ s a, a ∈ l → P s → P (step s a) ∧ ∃ ρ1, g (enc a) (env s) = some ρ1 ∧ F ρ1 τ = some (.nx (env (step s a)) τ)) →
    forL g F (l.map enc) (env s) τ = some (.nx (env (l.foldl step s)) τ) ∧ P (l.foldl step s)
  | [], s, hs, _ => ⟨rfl, hs⟩
  | a :: l, s, hs, h => by
    obtain ⟨hP, ρ1, e1, e2⟩ := h s a List.mem_cons_self hs
    obtain ⟨i1, i2⟩ := ev_fold P l (step s a) hP fun s b m => h s b (List.mem_cons_of_mem _ m)
    exact ⟨ev_forC e1 e2 i1, i2⟩
theorem ev_while_f {n : Nat} (hp : p ρ τ = some (false, ρ1, τ1)) : whileS p F (n + 1) ρ τ = some (.nx ρ1 τ1) := by
  unfold whileS; rw [hp]; rfl
theorem ev_while_t {n : Nat} (hp : p ρ τ = some (true, ρ1, τ1)) (hF : F ρ1 τ1 = some (.nx ρ2 τ2)) (h : whileS p F n ρ2 τ2 = some o) : whileS p F (n + 1) ρ τ = some o := by
  rw [whileS]
  simp only []
  rw [hp]; simp only [Option.bind_some, if_true]; rw [hF]; exact h
end
end ND

set_option Elab.async false
set_option linter.all false
set_option maxRecDepth 100000
set_option maxHeartbeats 4000000
/-! C3: what is drawn -/
namespace ND
open PySem PySem.SeqAt
theorem ints_of_P {P : Int → Prop} : ∀ {xs : List PyData}, (∀ x ∈ xs, ∃ i, x = .int i ∧ P i) → ∃ ns : List Int, xs = ns.map .int ∧ ∀ n ∈ ns, P n
  | [], _ => ⟨[], rfl, by simp⟩
  | x :: xs, h => by
    obtain ⟨i, rfl, hi⟩ := h x List.mem_cons_self
    obtain ⟨ns, rfl, hn⟩ := ints_of_P fun y m => h y (List.mem_cons_of_mem _ m)
    exact ⟨i :: ns, rfl, fun n m => by rcases List.mem_cons.mp m with rfl | m; exact hi; exact hn n m⟩
theorem prices_ok (n : Nat) (hn : n ≤ 1000) {τ : Tape} (t : TOk τ) {Q : W → Tape → Prop} (q : ∀ ps τ', ps.length = n → (∀ p ∈ ps, 1 ≤ p ∧ p ≤ 100) → TOk τ' → Q (.dat (tI ps)) τ') : wF f__law_prices [.tape, .dat (.int n)] τ Q := by
  unfold f__law_prices
  refine (wF_fn (by rfl)).mpr ?_
  simp only [b__law_prices, startD]
  rw [wS_seq]
  simp
  refine draw_ok (by decide) (by decide) t fun r τ1 r0 r1 t1 => ?_
  simp
  obtain ⟨y, e2, c, rfl, c1, c2⟩ := atI_all (xs := [PyData.int 1, .int 2, .int 9, .int 100]) (k := r) (P := fun y => ∃ c, y = PyData.int c ∧ 1 ≤ c ∧ c ≤ 100) r0 (by simpa using r1) (by
    simp only [List.mem_cons, List.not_mem_nil, or_false, forall_eq_or_imp, forall_eq]
    exact ⟨⟨_, rfl, by decide, by decide⟩, ⟨_, rfl, by decide, by decide⟩, ⟨_, rfl, by decide, by decide⟩, ⟨_, rfl, by decide, by decide⟩⟩)
  rw [e2]
  simp
  rw [thenQ_nx]
  simp [wipeD]
  refine ⟨by omega, ?_⟩
  refine wN_lcR (fun x => ∃ i, x = .int i ∧ (1 ≤ i ∧ i ≤ 100)) TOk t1 (fun d hd τ3 t3 => ⟨_, rfl, rfl, ?_⟩) (fun out τ3 hl hp t3 => ?_)
  · simp
    refine draw_ok (by omega) (by omega) t3 fun r τ4 r0 r1 t4 => ?_
    simp
    exact ⟨by omega, t4, rfl⟩
  · obtain ⟨ps, rfl, hps⟩ := ints_of_P hp
    rw [List.length_map, rangeD_ints] at hl
    simp at hl
    refine ⟨by simp; omega, ?_⟩
    exact q ps τ3 hl hps t3
theorem draw_ex {m : Int} (hm : 0 < m) (hm2 : m < 18446744073709551616) {τ : Tape} (t : TOk τ) : ∃ r τ', f__law_draw [.tape, .dat (.int m)] τ = some (.dat (.int r), τ') ∧ 0 ≤ r ∧ r < m ∧ TOk τ' := by
  obtain ⟨w, τ', e, r, rfl, h⟩ := draw_ok hm hm2 t (Q := fun w τ' => ∃ r, w = .dat (.int r) ∧ 0 ≤ r ∧ r < m ∧ TOk τ') fun r τ' h0 h1 t' => ⟨r, rfl, h0, h1, t'⟩
  exact ⟨r, τ', e, h⟩
theorem standing_ex {n : Nat} (hn : n ≤ 6) {τ : Tape} (t : TOk τ) : ∃ s τ', f__law_standing [.tape, .dat (.int n)] τ = some (.dat (tS s), τ') ∧ s ∈ rawSt n ∧ TOk τ' := by
  obtain ⟨w, τ', e, s, rfl, h⟩ := standing_ok n hn t (Q := fun w τ' => ∃ s, w = .dat (tS s) ∧ s ∈ rawSt n ∧ TOk τ') fun s τ' hs t' => ⟨s, rfl, hs, t'⟩
  exact ⟨s, τ', e, h⟩
theorem prices_ex {n : Nat} (hn : n ≤ 1000) {τ : Tape} (t : TOk τ) : ∃ ps τ', f__law_prices [.tape, .dat (.int n)] τ = some (.dat (tI ps), τ') ∧ ps.length = n ∧ (∀ p ∈ ps, 1 ≤ p ∧ p ≤ 100) ∧ TOk τ' := by
  obtain ⟨w, τ', e, s, rfl, h⟩ := prices_ok n hn t (Q := fun w τ' => ∃ ps, w = .dat (tI ps) ∧ ps.length = n ∧ (∀ p ∈ ps, 1 ≤ p ∧ p ≤ 100) ∧ TOk τ') fun s τ' hs hp t' => ⟨s, rfl, hs, hp, t'⟩
  exact ⟨s, τ', e, h⟩
/-- a comprehension over range whose items are drawn -/
theorem lc_draws {ρ : EnvD} {τ : Tape} {f : EF} {g : GF} {vs : List Nat} {ds : List PyData} (P : PyData → Prop) (t : TOk τ)
    (h : ∀ d ∈ ds, ∀ τ, TOk τ → ∃ ρ1 ρ2 x τ2, g d ρ = some ρ1 ∧ f ρ1 τ = some (.dat x, ρ2, τ2) ∧ P x ∧ TOk τ2 ∧ wipeD ρ2 vs = ρ) : ∃ out τ', lcL g yesB f vs ds ρ τ = some (out, ρ, τ') ∧ out.length = ds.length ∧ (∀ x ∈ out, P x) ∧ TOk τ' := by
  induction ds generalizing τ with
  | nil => exact ⟨[], τ, rfl, rfl, by simp, t⟩
  | cons d ds ih =>
    obtain ⟨ρ1, ρ2, x, τ2, e1, e2, hp, t2, e3⟩ := h d List.mem_cons_self τ t
    obtain ⟨out, τ', e4, hl, hP, t'⟩ := ih t2 fun d m => h d (List.mem_cons_of_mem _ m)
    refine ⟨x :: out, τ', ?_, by simp [hl], fun y m => by rcases List.mem_cons.mp m with rfl | m; exact hp; exact hP y m, t'⟩
    unfold lcL
    rw [e1]; simp only [Option.bind_some]
    rw [show yesB ρ1 τ = some (true, ρ1, τ) from rfl]
    simp only [Option.bind_some, if_true]
    rw [e2]; simp only [Option.bind_some]
    rw [e3, e4]
    rfl
end ND

set_option Elab.async false
set_option linter.all false
set_option maxRecDepth 100000
set_option maxHeartbeats 4000000
/-! G1: law k16's three defs at every drawn number, by the kernel (printed by g16.py) -/
namespace ND
open PySem
theorem seq_nx {F G : SF} {ρ ρ1 : EnvD} {τ τ1 : Tape} {o : Option Out} (h : F ρ τ = some (.nx ρ1 τ1)) (h2 : G ρ1 τ1 = o) : seqS F G ρ τ = o := by
  unfold seqS
  rw [h]
  exact h2
theorem fn_rt {N : Nat} {B : SF} {w v : W} {τ : Tape} (h : B (startD N [w]) τ = some (.rt v τ)) : fnF 1 N B [w] τ = some (v, τ) := by
  unfold fnF
  rw [if_pos (by rfl), h]
  rfl
def rr_0 : SF := (parS [1, 2, 3] (consA (tupF (consA (tupF (consA (cst (.int 1)) (consA (cst (.int 2)) (nilA)))) (consA (tupF (consA (cst (.int 3)) (nilA))) (nilA)))) (consA (tupF (consA (tupF (consA (cst (.int 1)) (consA (cst (.int 3)) (nilA)))) (consA (tupF (consA (cst (.int 2)) (nilA))) (nilA)))) (consA (tupF (consA (cst (.int 1)) (consA (var 0) (consA (op2 mulW (cst (.int 2)) (bvar 0)) (nilA))))) (nilA)))))
def rr_1 : SF := (setS 4 (ofN (lstN (consA (tupF (consA (cst (.str "open")) (consA (cst (.int 2)) (nilA)))) (consA (tupF (consA (cst (.str "nest")) (consA (cst (.int 1)) (consA (cst (.int 3)) (nilA))))) (nilA))))))
def rr_2 : SF := (ifS (tst (op2 neW (callD (f_moves) (permA 2 [0, 1] (consA (var 1) (consA (cst (.int 3)) (nilA))))) (ofN (lstN (consA (tupF (consA (cst (.str "nest")) (consA (cst (.int 2)) (consA (cst (.int 3)) (nilA))))) (consA (tupF (consA (cst (.str "open")) (consA (cst (.int 2)) (nilA)))) (nilA))))))) (retS (cst (.bool false))) (skipS))
def rr_3 : SF := (ifS (tst (op2 neW (callD (f_moves) (permA 2 [1, 0] (consA (cst (.int 2)) (consA (var 1) (nilA))))) (ofN (lstN (consA (tupF (consA (cst (.str "nest")) (consA (cst (.int 2)) (consA (cst (.int 3)) (nilA))))) (nilA)))))) (retS (cst (.bool false))) (skipS))
def rr_4 : SF := (ifS (tst (op2 neW (callD (f_least_row) (permA 4 [0, 1, 2, 3] (consA (var 1) (consA (var 2) (consA (cst (.int 3)) (consA (var 3) (nilA))))))) (bvar 4))) (retS (cst (.bool false))) (skipS))
def rr_5 : SF := (ifS (tst (op2 neW (callD (f_toil_of) (permA 2 [0, 1] (consA (var 4) (consA (var 3) (nilA))))) (op2 mulW (cst (.int 3)) (bvar 0)))) (retS (cst (.bool false))) (skipS))
def rr_6 : SF := (ifS (orB (tst (op2 (isNW true) (callD (f_least_row) (consA (var 1) (consA (var 2) (consA (cst (.int 2)) (consA (var 3) (nilA)))))) (cst .none))) (tst (op2 neW (callD (f_fewest_spots) (permA 2 [0, 1] (consA (var 1) (consA (var 2) (nilA))))) (cst (.int 3))))) (retS (cst (.bool false))) (skipS))
def rr_7 : SF := (ifS (notB (tst (callD (f_is_fence) (consA (var 1) (consA (var 2) (consA (cst (.int 2)) (consA (callD (f_fence) (permA 3 [2, 1, 0] (consA (cst (.int 2)) (consA (var 2) (consA (var 1) (nilA)))))) (nilA)))))))) (retS (cst (.bool false))) (skipS))
def rr_8 : SF := (ifS (notB (tst (callD (f_is_fence) (permA 4 [3, 2, 1, 0] (consA (tupF (consA (tupF (consA (tupF (consA (cst (.int 1)) (consA (cst (.int 2)) (nilA)))) (consA (tupF (consA (cst (.int 3)) (nilA))) (nilA)))) (consA (tupF (consA (tupF (consA (cst (.int 1)) (consA (cst (.int 2)) (consA (cst (.int 3)) (nilA))))) (nilA))) (nilA)))) (consA (cst (.int 2)) (consA (var 2) (consA (var 1) (nilA))))))))) (retS (cst (.bool false))) (skipS))
def rr_9 : SF := (ifS (tst (op2 neW (callD (f_least_dearest) (permA 4 [0, 1, 2, 3] (consA (var 1) (consA (var 2) (consA (cst (.int 3)) (consA (var 3) (nilA))))))) (op2 mulW (cst (.int 2)) (bvar 0)))) (retS (cst (.bool false))) (skipS))
def rr_10 : SF := (ifS (tst (op2 neW (callD (f_unlike) (permA 2 [1, 0] (consA (var 1) (consA (var 2) (nilA))))) (ofN (lstN (consA (cst (.int 2)) (consA (cst (.int 3)) (nilA))))))) (retS (cst (.bool false))) (skipS))
def rr_11 : SF := (ifS (tst (op2 neW (callD (f_floor) (permA 3 [0, 1, 2] (consA (var 1) (consA (var 2) (consA (var 3) (nilA)))))) (op2 mulW (cst (.int 3)) (bvar 0)))) (retS (cst (.bool false))) (skipS))
def rr_12 : SF := (ifS (tst (op2 neW (callD (f_comes_to) (permA 2 [0, 1] (consA (var 2) (consA (cst (.int 2)) (nilA))))) (ofN (lstN (consA (tupF (consA (tupF (consA (cst (.int 1)) (consA (cst (.int 3)) (nilA)))) (consA (tupF (consA (cst (.int 2)) (nilA))) (nilA)))) (nilA)))))) (retS (cst (.bool false))) (skipS))
def rr_13 : SF := (setS 5 (callD (f_toil_paper) (permA 3 [2, 1, 0] (consA (var 3) (consA (cst (.int 2)) (consA (var 1) (nilA)))))))
def rr_14 : SF := (ifS (tst (op2 neW (bvar 5) (tupF (consA (tupF (consA (tupF (consA (tupF (consA (cst (.int 1)) (nilA))) (consA (tupF (consA (cst (.int 2)) (consA (cst (.int 3)) (nilA)))) (nilA)))) (consA (cst .none) (nilA)))) (consA (tupF (consA (tupF (consA (tupF (consA (cst (.int 1)) (consA (cst (.int 2)) (nilA)))) (consA (tupF (consA (cst (.int 3)) (nilA))) (nilA)))) (consA (cst (.int 0)) (nilA)))) (consA (tupF (consA (tupF (consA (tupF (consA (cst (.int 1)) (consA (cst (.int 2)) (consA (cst (.int 3)) (nilA))))) (nilA))) (consA (op2 mulW (cst (.int 2)) (bvar 0)) (nilA)))) (consA (tupF (consA (tupF (consA (tupF (consA (cst (.int 1)) (consA (cst (.int 3)) (nilA)))) (consA (tupF (consA (cst (.int 2)) (nilA))) (nilA)))) (consA (cst .none) (nilA)))) (nilA)))))))) (retS (cst (.bool false))) (skipS))
def rr_15 : SF := (ifS (notB (tst (callD (f_is_toil_paper) (permA 4 [3, 2, 1, 0] (consA (var 5) (consA (var 3) (consA (cst (.int 2)) (consA (var 1) (nilA))))))))) (retS (cst (.bool false))) (skipS))
def rr_16 : SF := (ifS (tst (op2 neW (callD (f_standings) (permA 1 [0] (consA (cst (.int 2)) (nilA)))) (ofN (lstN (consA (tupF (consA (tupF (consA (cst (.int 1)) (nilA))) (consA (tupF (consA (cst (.int 2)) (nilA))) (nilA)))) (consA (tupF (consA (tupF (consA (cst (.int 1)) (consA (cst (.int 2)) (nilA)))) (nilA))) (nilA))))))) (retS (cst (.bool false))) (skipS))
def rr_17 : SF := (setS 6 (tupF (consA (callD (f_behind) (permA 3 [2, 1, 0] (consA (tupF (consA (cst (.str "open")) (consA (cst (.int 2)) (nilA)))) (consA (cst (.int 3)) (consA (var 1) (nilA)))))) (consA (callD (f_led) (permA 3 [2, 1, 0] (consA (var 4) (consA (cst (.int 3)) (consA (var 1) (nilA)))))) (nilA)))))
def rr_18 : SF := retS (andE (op2 eqW (bvar 6) (tupF (consA (tupF (consA (tupF (consA (cst (.int 1)) (nilA))) (consA (tupF (consA (cst (.int 2)) (nilA))) (consA (tupF (consA (cst (.int 3)) (nilA))) (nilA))))) (consA (var 2) (nilA))))) (andE (op2 eqW (callD (f_within) (permA 2 [0, 1] (consA (var 1) (consA (cst (.int 2)) (nilA))))) (tupF (consA (cst (.int 1)) (nilA)))) (callD (f_is_standing) (permA 1 [0] (consA (var 1) (nilA))))))
theorem rr_cut : b__law_rows_right = seqS rr_0 (seqS rr_1 (seqS rr_2 (seqS rr_3 (seqS rr_4 (seqS rr_5 (seqS rr_6 (seqS rr_7 (seqS rr_8 (seqS rr_9 (seqS rr_10 (seqS rr_11 (seqS rr_12 (seqS rr_13 (seqS rr_14 (seqS rr_15 (seqS rr_16 (seqS rr_17 (rr_18)))))))))))))))))) := rfl
def cr_0 : SF := (unpS (tupF (consA (tupF (consA (tupF (consA (cst (.int 1)) (consA (cst (.int 3)) (nilA)))) (consA (tupF (consA (cst (.int 2)) (nilA))) (nilA)))) (consA (tupF (consA (cst (.int 1)) (consA (cst (.int 2)) (consA (cst (.int 1)) (nilA))))) (consA (tupF (consA (cst (.int 9)) (consA (cst (.int 5)) (consA (cst (.int 0)) (nilA))))) (nilA))))) (tupG 3 (consG (nameG 1) (consG (nameG 2) (consG (nameG 3) (nilG))))))
def cr_1 : SF := (ifS (tst (op2 neW (callD (f_best_order) (permA 3 [0, 1, 2] (consA (var 1) (consA (var 2) (consA (var 3) (nilA)))))) (tupF (consA (cst (.int 3)) (consA (cst (.int 1)) (consA (cst (.int 2)) (nilA))))))) (retS (cst (.bool false))) (skipS))
def cr_2 : SF := (ifS (tst (op2 neW (callD (f_least_wait) (permA 3 [0, 1, 2] (consA (var 1) (consA (var 2) (consA (var 3) (nilA)))))) (op2 addW (op2 mulW (cst (.int 9)) (cst (.int 2))) (op2 mulW (cst (.int 5)) (cst (.int 4)))))) (retS (cst (.bool false))) (skipS))
def cr_3 : SF := (ifS (tst (op2 neW (callD (f_finds_in) (permA 3 [0, 1, 2] (consA (var 1) (consA (var 2) (consA (var 3) (nilA)))))) (tupF (consA (cst (.int 19)) (consA (cst (.int 7)) (nilA)))))) (retS (cst (.bool false))) (skipS))
def cr_4 : SF := (setS 4 (tupF (consA (tupF (consA (tupF (consA (cst (.int 3)) (consA (cst (.int 1)) (nilA)))) (nilA))) (consA (tupF (consA (tupF (consA (cst (.int 2)) (nilA))) (nilA))) (nilA)))))
def cr_5 : SF := (ifS (tst (op2 neW (callD (f_coin_shown) (permA 4 [0, 1, 2, 3] (consA (var 1) (consA (var 2) (consA (var 3) (consA (var 4) (nilA))))))) (cst (.int 38)))) (retS (cst (.bool false))) (skipS))
def cr_6 : SF := (ifS (tst (op2 (isNW true) (callD (f_coin_shown) (consA (var 1) (consA (var 2) (consA (var 3) (consA (tupF (consA (tupF (consA (tupF (consA (cst (.int 3)) (nilA))) (consA (tupF (consA (cst (.int 1)) (nilA))) (nilA)))) (consA (tupF (consA (tupF (consA (cst (.int 2)) (nilA))) (nilA))) (nilA)))) (nilA)))))) (cst .none))) (retS (cst (.bool false))) (skipS))
def cr_7 : SF := (ifS (tst (op2 neW (callD (f_wait_of) (permA 4 [0, 1, 2, 3] (consA (var 1) (consA (var 2) (consA (var 3) (consA (tupF (consA (cst (.int 2)) (consA (cst (.int 3)) (consA (cst (.int 1)) (nilA))))) (nilA))))))) (op2 addW (op2 mulW (cst (.int 5)) (cst (.int 2))) (op2 mulW (cst (.int 9)) (cst (.int 4)))))) (retS (cst (.bool false))) (skipS))
def cr_8 : SF := (setS 5 (callD (f_best_order) (consA (tupF (consA (tupF (consA (cst (.int 1)) (nilA))) (consA (tupF (consA (cst (.int 2)) (nilA))) (consA (tupF (consA (cst (.int 3)) (nilA))) (nilA))))) (consA (tupF (consA (var 0) (consA (var 0) (consA (var 0) (nilA))))) (consA (tupF (consA (var 0) (consA (var 0) (consA (var 0) (nilA))))) (nilA))))))
def cr_9 : SF := retS (andE (op2 eqW (bvar 5) (tupF (consA (cst (.int 1)) (consA (cst (.int 2)) (consA (cst (.int 3)) (nilA)))))) (op2 eqW (callD (f_coin_paper) (permA 3 [0, 1, 2] (consA (tupF (consA (tupF (consA (cst (.int 1)) (nilA))) (nilA))) (consA (tupF (consA (var 0) (nilA))) (consA (tupF (consA (var 0) (nilA))) (nilA)))))) (tupF (consA (tupF (consA (tupF (consA (cst (.int 1)) (nilA))) (nilA))) (nilA)))))
theorem cr_cut : b__law_coins_right = seqS cr_0 (seqS cr_1 (seqS cr_2 (seqS cr_3 (seqS cr_4 (seqS cr_5 (seqS cr_6 (seqS cr_7 (seqS cr_8 (cr_9))))))))) := rfl
def dueD : PyData := .list [.tuple [.str "open", .int 2], .tuple [.str "nest", .int 1, .int 3]]
def rE (b : Int) (x5 x6 : Option Sl) : EnvD := [vd (.int b), vd (tS [[1, 2], [3]]), vd (tS [[1, 3], [2]]), vd (tI [1, b, 2 * b]), vd dueD, x5, x6]
theorem r_0 (b : Int) (τ : Tape) : rr_0 (startD 7 [.dat (.int b)]) τ = some (.nx [vd (.int b), vd (tS [[1, 2], [3]]), vd (tS [[1, 3], [2]]), vd (tI [1, b, 2 * b]), none, none, none] τ) := by kernel_rfl
theorem r_1 (b : Int) (τ : Tape) : rr_1 [vd (.int b), vd (tS [[1, 2], [3]]), vd (tS [[1, 3], [2]]), vd (tI [1, b, 2 * b]), none, none, none] τ = some (.nx (rE b none none) τ) := by kernel_rfl
theorem r_2 (b : Int) (τ : Tape) : rr_2 (rE b none none) τ = some (.nx (rE b none none) τ) := by kernel_rfl
theorem r_3 (b : Int) (τ : Tape) : rr_3 (rE b none none) τ = some (.nx (rE b none none) τ) := by kernel_rfl
theorem r_7 (b : Int) (τ : Tape) : rr_7 (rE b none none) τ = some (.nx (rE b none none) τ) := by kernel_rfl
theorem r_8 (b : Int) (τ : Tape) : rr_8 (rE b none none) τ = some (.nx (rE b none none) τ) := by kernel_rfl
theorem r_10 (b : Int) (τ : Tape) : rr_10 (rE b none none) τ = some (.nx (rE b none none) τ) := by kernel_rfl
theorem r_12 (b : Int) (τ : Tape) : rr_12 (rE b none none) τ = some (.nx (rE b none none) τ) := by kernel_rfl
def papD (b : Int) : PyData := .tuple [.tuple [tS [[1], [2, 3]], .none], .tuple [tS [[1, 2], [3]], .int 0], .tuple [tS [[1, 2, 3]], .int (2 * b)], .tuple [tS [[1, 3], [2]], .none]]
def endsD : PyData := .tuple [tS [[1], [2], [3]], tS [[1, 3], [2]]]
theorem r_16 (b : Int) (x : Option Sl) (τ : Tape) : rr_16 (rE b x none) τ = some (.nx (rE b x none) τ) := by kernel_rfl
theorem r_17 (b : Int) (x : Option Sl) (τ : Tape) : rr_17 (rE b x none) τ = some (.nx (rE b x (vd endsD)) τ) := by kernel_rfl
theorem r_18 (b : Int) (x : Option Sl) (τ : Tape) : rr_18 (rE b x (vd endsD)) τ = some (.rt (.dat (.bool true)) τ) := by kernel_rfl
/-- what the number b does -/
structure RowB (b : Int) : Prop where
  d4 : ∀ τ, rr_4 (rE b none none) τ = some (.nx (rE b none none) τ)
  d5 : ∀ τ, rr_5 (rE b none none) τ = some (.nx (rE b none none) τ)
  d6 : ∀ τ, rr_6 (rE b none none) τ = some (.nx (rE b none none) τ)
  d9 : ∀ τ, rr_9 (rE b none none) τ = some (.nx (rE b none none) τ)
  d11 : ∀ τ, rr_11 (rE b none none) τ = some (.nx (rE b none none) τ)
  d13 : ∀ τ, rr_13 (rE b none none) τ = some (.nx (rE b (vd (papD b)) none) τ)
  d14 : ∀ τ, rr_14 (rE b (vd (papD b)) none) τ = some (.nx (rE b (vd (papD b)) none) τ)
  d15 : ∀ τ, rr_15 (rE b (vd (papD b)) none) τ = some (.nx (rE b (vd (papD b)) none) τ)
theorem row_1 : RowB 1 := ⟨fun _ => by kernel_rfl, fun _ => by kernel_rfl, fun _ => by kernel_rfl, fun _ => by kernel_rfl, fun _ => by kernel_rfl, fun _ => by kernel_rfl, fun _ => by kernel_rfl, fun _ => by kernel_rfl⟩
theorem row_2 : RowB 2 := ⟨fun _ => by kernel_rfl, fun _ => by kernel_rfl, fun _ => by kernel_rfl, fun _ => by kernel_rfl, fun _ => by kernel_rfl, fun _ => by kernel_rfl, fun _ => by kernel_rfl, fun _ => by kernel_rfl⟩
theorem row_3 : RowB 3 := ⟨fun _ => by kernel_rfl, fun _ => by kernel_rfl, fun _ => by kernel_rfl, fun _ => by kernel_rfl, fun _ => by kernel_rfl, fun _ => by kernel_rfl, fun _ => by kernel_rfl, fun _ => by kernel_rfl⟩
theorem row_4 : RowB 4 := ⟨fun _ => by kernel_rfl, fun _ => by kernel_rfl, fun _ => by kernel_rfl, fun _ => by kernel_rfl, fun _ => by kernel_rfl, fun _ => by kernel_rfl, fun _ => by kernel_rfl, fun _ => by kernel_rfl⟩
theorem row_5 : RowB 5 := ⟨fun _ => by kernel_rfl, fun _ => by kernel_rfl, fun _ => by kernel_rfl, fun _ => by kernel_rfl, fun _ => by kernel_rfl, fun _ => by kernel_rfl, fun _ => by kernel_rfl, fun _ => by kernel_rfl⟩
theorem row_6 : RowB 6 := ⟨fun _ => by kernel_rfl, fun _ => by kernel_rfl, fun _ => by kernel_rfl, fun _ => by kernel_rfl, fun _ => by kernel_rfl, fun _ => by kernel_rfl, fun _ => by kernel_rfl, fun _ => by kernel_rfl⟩
theorem row_7 : RowB 7 := ⟨fun _ => by kernel_rfl, fun _ => by kernel_rfl, fun _ => by kernel_rfl, fun _ => by kernel_rfl, fun _ => by kernel_rfl, fun _ => by kernel_rfl, fun _ => by kernel_rfl, fun _ => by kernel_rfl⟩
theorem row_8 : RowB 8 := ⟨fun _ => by kernel_rfl, fun _ => by kernel_rfl, fun _ => by kernel_rfl, fun _ => by kernel_rfl, fun _ => by kernel_rfl, fun _ => by kernel_rfl, fun _ => by kernel_rfl, fun _ => by kernel_rfl⟩
theorem row_9 : RowB 9 := ⟨fun _ => by kernel_rfl, fun _ => by kernel_rfl, fun _ => by kernel_rfl, fun _ => by kernel_rfl, fun _ => by kernel_rfl, fun _ => by kernel_rfl, fun _ => by kernel_rfl, fun _ => by kernel_rfl⟩
theorem row_10 : RowB 10 := ⟨fun _ => by kernel_rfl, fun _ => by kernel_rfl, fun _ => by kernel_rfl, fun _ => by kernel_rfl, fun _ => by kernel_rfl, fun _ => by kernel_rfl, fun _ => by kernel_rfl, fun _ => by kernel_rfl⟩
theorem row_11 : RowB 11 := ⟨fun _ => by kernel_rfl, fun _ => by kernel_rfl, fun _ => by kernel_rfl, fun _ => by kernel_rfl, fun _ => by kernel_rfl, fun _ => by kernel_rfl, fun _ => by kernel_rfl, fun _ => by kernel_rfl⟩
theorem row_12 : RowB 12 := ⟨fun _ => by kernel_rfl, fun _ => by kernel_rfl, fun _ => by kernel_rfl, fun _ => by kernel_rfl, fun _ => by kernel_rfl, fun _ => by kernel_rfl, fun _ => by kernel_rfl, fun _ => by kernel_rfl⟩
theorem row_13 : RowB 13 := ⟨fun _ => by kernel_rfl, fun _ => by kernel_rfl, fun _ => by kernel_rfl, fun _ => by kernel_rfl, fun _ => by kernel_rfl, fun _ => by kernel_rfl, fun _ => by kernel_rfl, fun _ => by kernel_rfl⟩
theorem row_14 : RowB 14 := ⟨fun _ => by kernel_rfl, fun _ => by kernel_rfl, fun _ => by kernel_rfl, fun _ => by kernel_rfl, fun _ => by kernel_rfl, fun _ => by kernel_rfl, fun _ => by kernel_rfl, fun _ => by kernel_rfl⟩
theorem row_15 : RowB 15 := ⟨fun _ => by kernel_rfl, fun _ => by kernel_rfl, fun _ => by kernel_rfl, fun _ => by kernel_rfl, fun _ => by kernel_rfl, fun _ => by kernel_rfl, fun _ => by kernel_rfl, fun _ => by kernel_rfl⟩
theorem row_16 : RowB 16 := ⟨fun _ => by kernel_rfl, fun _ => by kernel_rfl, fun _ => by kernel_rfl, fun _ => by kernel_rfl, fun _ => by kernel_rfl, fun _ => by kernel_rfl, fun _ => by kernel_rfl, fun _ => by kernel_rfl⟩
theorem row_17 : RowB 17 := ⟨fun _ => by kernel_rfl, fun _ => by kernel_rfl, fun _ => by kernel_rfl, fun _ => by kernel_rfl, fun _ => by kernel_rfl, fun _ => by kernel_rfl, fun _ => by kernel_rfl, fun _ => by kernel_rfl⟩
theorem row_18 : RowB 18 := ⟨fun _ => by kernel_rfl, fun _ => by kernel_rfl, fun _ => by kernel_rfl, fun _ => by kernel_rfl, fun _ => by kernel_rfl, fun _ => by kernel_rfl, fun _ => by kernel_rfl, fun _ => by kernel_rfl⟩
theorem row_19 : RowB 19 := ⟨fun _ => by kernel_rfl, fun _ => by kernel_rfl, fun _ => by kernel_rfl, fun _ => by kernel_rfl, fun _ => by kernel_rfl, fun _ => by kernel_rfl, fun _ => by kernel_rfl, fun _ => by kernel_rfl⟩
theorem row_20 : RowB 20 := ⟨fun _ => by kernel_rfl, fun _ => by kernel_rfl, fun _ => by kernel_rfl, fun _ => by kernel_rfl, fun _ => by kernel_rfl, fun _ => by kernel_rfl, fun _ => by kernel_rfl, fun _ => by kernel_rfl⟩
theorem row_21 : RowB 21 := ⟨fun _ => by kernel_rfl, fun _ => by kernel_rfl, fun _ => by kernel_rfl, fun _ => by kernel_rfl, fun _ => by kernel_rfl, fun _ => by kernel_rfl, fun _ => by kernel_rfl, fun _ => by kernel_rfl⟩
theorem row_22 : RowB 22 := ⟨fun _ => by kernel_rfl, fun _ => by kernel_rfl, fun _ => by kernel_rfl, fun _ => by kernel_rfl, fun _ => by kernel_rfl, fun _ => by kernel_rfl, fun _ => by kernel_rfl, fun _ => by kernel_rfl⟩
theorem row_23 : RowB 23 := ⟨fun _ => by kernel_rfl, fun _ => by kernel_rfl, fun _ => by kernel_rfl, fun _ => by kernel_rfl, fun _ => by kernel_rfl, fun _ => by kernel_rfl, fun _ => by kernel_rfl, fun _ => by kernel_rfl⟩
theorem row_24 : RowB 24 := ⟨fun _ => by kernel_rfl, fun _ => by kernel_rfl, fun _ => by kernel_rfl, fun _ => by kernel_rfl, fun _ => by kernel_rfl, fun _ => by kernel_rfl, fun _ => by kernel_rfl, fun _ => by kernel_rfl⟩
theorem row_25 : RowB 25 := ⟨fun _ => by kernel_rfl, fun _ => by kernel_rfl, fun _ => by kernel_rfl, fun _ => by kernel_rfl, fun _ => by kernel_rfl, fun _ => by kernel_rfl, fun _ => by kernel_rfl, fun _ => by kernel_rfl⟩
theorem row_26 : RowB 26 := ⟨fun _ => by kernel_rfl, fun _ => by kernel_rfl, fun _ => by kernel_rfl, fun _ => by kernel_rfl, fun _ => by kernel_rfl, fun _ => by kernel_rfl, fun _ => by kernel_rfl, fun _ => by kernel_rfl⟩
theorem row_27 : RowB 27 := ⟨fun _ => by kernel_rfl, fun _ => by kernel_rfl, fun _ => by kernel_rfl, fun _ => by kernel_rfl, fun _ => by kernel_rfl, fun _ => by kernel_rfl, fun _ => by kernel_rfl, fun _ => by kernel_rfl⟩
theorem row_28 : RowB 28 := ⟨fun _ => by kernel_rfl, fun _ => by kernel_rfl, fun _ => by kernel_rfl, fun _ => by kernel_rfl, fun _ => by kernel_rfl, fun _ => by kernel_rfl, fun _ => by kernel_rfl, fun _ => by kernel_rfl⟩
theorem row_29 : RowB 29 := ⟨fun _ => by kernel_rfl, fun _ => by kernel_rfl, fun _ => by kernel_rfl, fun _ => by kernel_rfl, fun _ => by kernel_rfl, fun _ => by kernel_rfl, fun _ => by kernel_rfl, fun _ => by kernel_rfl⟩
theorem row_30 : RowB 30 := ⟨fun _ => by kernel_rfl, fun _ => by kernel_rfl, fun _ => by kernel_rfl, fun _ => by kernel_rfl, fun _ => by kernel_rfl, fun _ => by kernel_rfl, fun _ => by kernel_rfl, fun _ => by kernel_rfl⟩
theorem row_31 : RowB 31 := ⟨fun _ => by kernel_rfl, fun _ => by kernel_rfl, fun _ => by kernel_rfl, fun _ => by kernel_rfl, fun _ => by kernel_rfl, fun _ => by kernel_rfl, fun _ => by kernel_rfl, fun _ => by kernel_rfl⟩
theorem row_32 : RowB 32 := ⟨fun _ => by kernel_rfl, fun _ => by kernel_rfl, fun _ => by kernel_rfl, fun _ => by kernel_rfl, fun _ => by kernel_rfl, fun _ => by kernel_rfl, fun _ => by kernel_rfl, fun _ => by kernel_rfl⟩
theorem row_33 : RowB 33 := ⟨fun _ => by kernel_rfl, fun _ => by kernel_rfl, fun _ => by kernel_rfl, fun _ => by kernel_rfl, fun _ => by kernel_rfl, fun _ => by kernel_rfl, fun _ => by kernel_rfl, fun _ => by kernel_rfl⟩
theorem row_34 : RowB 34 := ⟨fun _ => by kernel_rfl, fun _ => by kernel_rfl, fun _ => by kernel_rfl, fun _ => by kernel_rfl, fun _ => by kernel_rfl, fun _ => by kernel_rfl, fun _ => by kernel_rfl, fun _ => by kernel_rfl⟩
theorem row_35 : RowB 35 := ⟨fun _ => by kernel_rfl, fun _ => by kernel_rfl, fun _ => by kernel_rfl, fun _ => by kernel_rfl, fun _ => by kernel_rfl, fun _ => by kernel_rfl, fun _ => by kernel_rfl, fun _ => by kernel_rfl⟩
theorem row_36 : RowB 36 := ⟨fun _ => by kernel_rfl, fun _ => by kernel_rfl, fun _ => by kernel_rfl, fun _ => by kernel_rfl, fun _ => by kernel_rfl, fun _ => by kernel_rfl, fun _ => by kernel_rfl, fun _ => by kernel_rfl⟩
theorem row_37 : RowB 37 := ⟨fun _ => by kernel_rfl, fun _ => by kernel_rfl, fun _ => by kernel_rfl, fun _ => by kernel_rfl, fun _ => by kernel_rfl, fun _ => by kernel_rfl, fun _ => by kernel_rfl, fun _ => by kernel_rfl⟩
theorem row_38 : RowB 38 := ⟨fun _ => by kernel_rfl, fun _ => by kernel_rfl, fun _ => by kernel_rfl, fun _ => by kernel_rfl, fun _ => by kernel_rfl, fun _ => by kernel_rfl, fun _ => by kernel_rfl, fun _ => by kernel_rfl⟩
theorem row_39 : RowB 39 := ⟨fun _ => by kernel_rfl, fun _ => by kernel_rfl, fun _ => by kernel_rfl, fun _ => by kernel_rfl, fun _ => by kernel_rfl, fun _ => by kernel_rfl, fun _ => by kernel_rfl, fun _ => by kernel_rfl⟩
theorem row_40 : RowB 40 := ⟨fun _ => by kernel_rfl, fun _ => by kernel_rfl, fun _ => by kernel_rfl, fun _ => by kernel_rfl, fun _ => by kernel_rfl, fun _ => by kernel_rfl, fun _ => by kernel_rfl, fun _ => by kernel_rfl⟩
theorem row_41 : RowB 41 := ⟨fun _ => by kernel_rfl, fun _ => by kernel_rfl, fun _ => by kernel_rfl, fun _ => by kernel_rfl, fun _ => by kernel_rfl, fun _ => by kernel_rfl, fun _ => by kernel_rfl, fun _ => by kernel_rfl⟩
theorem row_42 : RowB 42 := ⟨fun _ => by kernel_rfl, fun _ => by kernel_rfl, fun _ => by kernel_rfl, fun _ => by kernel_rfl, fun _ => by kernel_rfl, fun _ => by kernel_rfl, fun _ => by kernel_rfl, fun _ => by kernel_rfl⟩
theorem row_43 : RowB 43 := ⟨fun _ => by kernel_rfl, fun _ => by kernel_rfl, fun _ => by kernel_rfl, fun _ => by kernel_rfl, fun _ => by kernel_rfl, fun _ => by kernel_rfl, fun _ => by kernel_rfl, fun _ => by kernel_rfl⟩
theorem row_44 : RowB 44 := ⟨fun _ => by kernel_rfl, fun _ => by kernel_rfl, fun _ => by kernel_rfl, fun _ => by kernel_rfl, fun _ => by kernel_rfl, fun _ => by kernel_rfl, fun _ => by kernel_rfl, fun _ => by kernel_rfl⟩
theorem row_45 : RowB 45 := ⟨fun _ => by kernel_rfl, fun _ => by kernel_rfl, fun _ => by kernel_rfl, fun _ => by kernel_rfl, fun _ => by kernel_rfl, fun _ => by kernel_rfl, fun _ => by kernel_rfl, fun _ => by kernel_rfl⟩
theorem row_46 : RowB 46 := ⟨fun _ => by kernel_rfl, fun _ => by kernel_rfl, fun _ => by kernel_rfl, fun _ => by kernel_rfl, fun _ => by kernel_rfl, fun _ => by kernel_rfl, fun _ => by kernel_rfl, fun _ => by kernel_rfl⟩
theorem row_47 : RowB 47 := ⟨fun _ => by kernel_rfl, fun _ => by kernel_rfl, fun _ => by kernel_rfl, fun _ => by kernel_rfl, fun _ => by kernel_rfl, fun _ => by kernel_rfl, fun _ => by kernel_rfl, fun _ => by kernel_rfl⟩
theorem row_48 : RowB 48 := ⟨fun _ => by kernel_rfl, fun _ => by kernel_rfl, fun _ => by kernel_rfl, fun _ => by kernel_rfl, fun _ => by kernel_rfl, fun _ => by kernel_rfl, fun _ => by kernel_rfl, fun _ => by kernel_rfl⟩
theorem row_49 : RowB 49 := ⟨fun _ => by kernel_rfl, fun _ => by kernel_rfl, fun _ => by kernel_rfl, fun _ => by kernel_rfl, fun _ => by kernel_rfl, fun _ => by kernel_rfl, fun _ => by kernel_rfl, fun _ => by kernel_rfl⟩
theorem row_50 : RowB 50 := ⟨fun _ => by kernel_rfl, fun _ => by kernel_rfl, fun _ => by kernel_rfl, fun _ => by kernel_rfl, fun _ => by kernel_rfl, fun _ => by kernel_rfl, fun _ => by kernel_rfl, fun _ => by kernel_rfl⟩
theorem row_nat : ∀ i : Nat, i < 50 → RowB ((i : Int) + 1)
  | 0, _ => row_1
  | 1, _ => row_2
  | 2, _ => row_3
  | 3, _ => row_4
  | 4, _ => row_5
  | 5, _ => row_6
  | 6, _ => row_7
  | 7, _ => row_8
  | 8, _ => row_9
  | 9, _ => row_10
  | 10, _ => row_11
  | 11, _ => row_12
  | 12, _ => row_13
  | 13, _ => row_14
  | 14, _ => row_15
  | 15, _ => row_16
  | 16, _ => row_17
  | 17, _ => row_18
  | 18, _ => row_19
  | 19, _ => row_20
  | 20, _ => row_21
  | 21, _ => row_22
  | 22, _ => row_23
  | 23, _ => row_24
  | 24, _ => row_25
  | 25, _ => row_26
  | 26, _ => row_27
  | 27, _ => row_28
  | 28, _ => row_29
  | 29, _ => row_30
  | 30, _ => row_31
  | 31, _ => row_32
  | 32, _ => row_33
  | 33, _ => row_34
  | 34, _ => row_35
  | 35, _ => row_36
  | 36, _ => row_37
  | 37, _ => row_38
  | 38, _ => row_39
  | 39, _ => row_40
  | 40, _ => row_41
  | 41, _ => row_42
  | 42, _ => row_43
  | 43, _ => row_44
  | 44, _ => row_45
  | 45, _ => row_46
  | 46, _ => row_47
  | 47, _ => row_48
  | 48, _ => row_49
  | 49, _ => row_50
  | n + 50, h => absurd h (by omega)
theorem g_rows {b : Int} (h1 : 1 ≤ b) (h2 : b ≤ 50) (τ : Tape) : f__law_rows_right [.dat (.int b)] τ = some (.dat (.bool true), τ) := by
  have h := row_nat (b - 1).toNat (by omega)
  rw [show (((b - 1).toNat : Nat) : Int) + 1 = b by omega] at h
  refine fn_rt ?_
  rw [rr_cut]
  exact seq_nx (r_0 b τ) <| seq_nx (r_1 b τ) <| seq_nx (r_2 b τ) <| seq_nx (r_3 b τ) <| seq_nx (h.d4 τ) <| seq_nx (h.d5 τ) <| seq_nx (h.d6 τ) <| seq_nx (r_7 b τ) <| seq_nx (r_8 b τ) <| seq_nx (h.d9 τ) <| seq_nx (r_10 b τ) <| seq_nx (h.d11 τ) <| seq_nx (r_12 b τ) <| seq_nx (h.d13 τ) <| seq_nx (h.d14 τ) <| seq_nx (h.d15 τ) <| seq_nx (r_16 b _ τ) <| seq_nx (r_17 b _ τ) <| r_18 b _ τ
def cE (b : Int) (x4 x5 : Option Sl) : EnvD := [vd (.int b), vd (tS [[1, 3], [2]]), vd (tI [1, 2, 1]), vd (tI [9, 5, 0]), x4, x5]
def cpD : PyData := .tuple [tS [[3, 1]], tS [[2]]]
theorem c_0 (b : Int) (τ : Tape) : cr_0 (startD 6 [.dat (.int b)]) τ = some (.nx (cE b none none) τ) := by kernel_rfl
theorem c_1 (b : Int) (τ : Tape) : cr_1 (cE b none none) τ = some (.nx (cE b none none) τ) := by kernel_rfl
theorem c_2 (b : Int) (τ : Tape) : cr_2 (cE b none none) τ = some (.nx (cE b none none) τ) := by kernel_rfl
theorem c_3 (b : Int) (τ : Tape) : cr_3 (cE b none none) τ = some (.nx (cE b none none) τ) := by kernel_rfl
theorem c_4 (b : Int) (τ : Tape) : cr_4 (cE b none none) τ = some (.nx (cE b (vd cpD) none) τ) := by kernel_rfl
theorem c_5 (b : Int) (τ : Tape) : cr_5 (cE b (vd cpD) none) τ = some (.nx (cE b (vd cpD) none) τ) := by kernel_rfl
theorem c_6 (b : Int) (τ : Tape) : cr_6 (cE b (vd cpD) none) τ = some (.nx (cE b (vd cpD) none) τ) := by kernel_rfl
theorem c_7 (b : Int) (τ : Tape) : cr_7 (cE b (vd cpD) none) τ = some (.nx (cE b (vd cpD) none) τ) := by kernel_rfl
structure CoinB (b : Int) : Prop where
  d8 : ∀ τ, cr_8 (cE b (vd cpD) none) τ = some (.nx (cE b (vd cpD) (vd (tI [1, 2, 3]))) τ)
  d9 : ∀ τ, cr_9 (cE b (vd cpD) (vd (tI [1, 2, 3]))) τ = some (.rt (.dat (.bool true)) τ)
theorem coin_1 : CoinB 1 := ⟨fun _ => by kernel_rfl, fun _ => by kernel_rfl⟩
theorem coin_2 : CoinB 2 := ⟨fun _ => by kernel_rfl, fun _ => by kernel_rfl⟩
theorem coin_3 : CoinB 3 := ⟨fun _ => by kernel_rfl, fun _ => by kernel_rfl⟩
theorem coin_4 : CoinB 4 := ⟨fun _ => by kernel_rfl, fun _ => by kernel_rfl⟩
theorem coin_5 : CoinB 5 := ⟨fun _ => by kernel_rfl, fun _ => by kernel_rfl⟩
theorem coin_6 : CoinB 6 := ⟨fun _ => by kernel_rfl, fun _ => by kernel_rfl⟩
theorem coin_7 : CoinB 7 := ⟨fun _ => by kernel_rfl, fun _ => by kernel_rfl⟩
theorem coin_8 : CoinB 8 := ⟨fun _ => by kernel_rfl, fun _ => by kernel_rfl⟩
theorem coin_9 : CoinB 9 := ⟨fun _ => by kernel_rfl, fun _ => by kernel_rfl⟩
theorem coin_10 : CoinB 10 := ⟨fun _ => by kernel_rfl, fun _ => by kernel_rfl⟩
theorem coin_11 : CoinB 11 := ⟨fun _ => by kernel_rfl, fun _ => by kernel_rfl⟩
theorem coin_12 : CoinB 12 := ⟨fun _ => by kernel_rfl, fun _ => by kernel_rfl⟩
theorem coin_13 : CoinB 13 := ⟨fun _ => by kernel_rfl, fun _ => by kernel_rfl⟩
theorem coin_14 : CoinB 14 := ⟨fun _ => by kernel_rfl, fun _ => by kernel_rfl⟩
theorem coin_15 : CoinB 15 := ⟨fun _ => by kernel_rfl, fun _ => by kernel_rfl⟩
theorem coin_16 : CoinB 16 := ⟨fun _ => by kernel_rfl, fun _ => by kernel_rfl⟩
theorem coin_17 : CoinB 17 := ⟨fun _ => by kernel_rfl, fun _ => by kernel_rfl⟩
theorem coin_18 : CoinB 18 := ⟨fun _ => by kernel_rfl, fun _ => by kernel_rfl⟩
theorem coin_19 : CoinB 19 := ⟨fun _ => by kernel_rfl, fun _ => by kernel_rfl⟩
theorem coin_20 : CoinB 20 := ⟨fun _ => by kernel_rfl, fun _ => by kernel_rfl⟩
theorem coin_21 : CoinB 21 := ⟨fun _ => by kernel_rfl, fun _ => by kernel_rfl⟩
theorem coin_22 : CoinB 22 := ⟨fun _ => by kernel_rfl, fun _ => by kernel_rfl⟩
theorem coin_23 : CoinB 23 := ⟨fun _ => by kernel_rfl, fun _ => by kernel_rfl⟩
theorem coin_24 : CoinB 24 := ⟨fun _ => by kernel_rfl, fun _ => by kernel_rfl⟩
theorem coin_25 : CoinB 25 := ⟨fun _ => by kernel_rfl, fun _ => by kernel_rfl⟩
theorem coin_26 : CoinB 26 := ⟨fun _ => by kernel_rfl, fun _ => by kernel_rfl⟩
theorem coin_27 : CoinB 27 := ⟨fun _ => by kernel_rfl, fun _ => by kernel_rfl⟩
theorem coin_28 : CoinB 28 := ⟨fun _ => by kernel_rfl, fun _ => by kernel_rfl⟩
theorem coin_29 : CoinB 29 := ⟨fun _ => by kernel_rfl, fun _ => by kernel_rfl⟩
theorem coin_30 : CoinB 30 := ⟨fun _ => by kernel_rfl, fun _ => by kernel_rfl⟩
theorem coin_31 : CoinB 31 := ⟨fun _ => by kernel_rfl, fun _ => by kernel_rfl⟩
theorem coin_32 : CoinB 32 := ⟨fun _ => by kernel_rfl, fun _ => by kernel_rfl⟩
theorem coin_33 : CoinB 33 := ⟨fun _ => by kernel_rfl, fun _ => by kernel_rfl⟩
theorem coin_34 : CoinB 34 := ⟨fun _ => by kernel_rfl, fun _ => by kernel_rfl⟩
theorem coin_35 : CoinB 35 := ⟨fun _ => by kernel_rfl, fun _ => by kernel_rfl⟩
theorem coin_36 : CoinB 36 := ⟨fun _ => by kernel_rfl, fun _ => by kernel_rfl⟩
theorem coin_37 : CoinB 37 := ⟨fun _ => by kernel_rfl, fun _ => by kernel_rfl⟩
theorem coin_38 : CoinB 38 := ⟨fun _ => by kernel_rfl, fun _ => by kernel_rfl⟩
theorem coin_39 : CoinB 39 := ⟨fun _ => by kernel_rfl, fun _ => by kernel_rfl⟩
theorem coin_40 : CoinB 40 := ⟨fun _ => by kernel_rfl, fun _ => by kernel_rfl⟩
theorem coin_41 : CoinB 41 := ⟨fun _ => by kernel_rfl, fun _ => by kernel_rfl⟩
theorem coin_42 : CoinB 42 := ⟨fun _ => by kernel_rfl, fun _ => by kernel_rfl⟩
theorem coin_43 : CoinB 43 := ⟨fun _ => by kernel_rfl, fun _ => by kernel_rfl⟩
theorem coin_44 : CoinB 44 := ⟨fun _ => by kernel_rfl, fun _ => by kernel_rfl⟩
theorem coin_45 : CoinB 45 := ⟨fun _ => by kernel_rfl, fun _ => by kernel_rfl⟩
theorem coin_46 : CoinB 46 := ⟨fun _ => by kernel_rfl, fun _ => by kernel_rfl⟩
theorem coin_47 : CoinB 47 := ⟨fun _ => by kernel_rfl, fun _ => by kernel_rfl⟩
theorem coin_48 : CoinB 48 := ⟨fun _ => by kernel_rfl, fun _ => by kernel_rfl⟩
theorem coin_49 : CoinB 49 := ⟨fun _ => by kernel_rfl, fun _ => by kernel_rfl⟩
theorem coin_50 : CoinB 50 := ⟨fun _ => by kernel_rfl, fun _ => by kernel_rfl⟩
theorem coin_nat : ∀ i : Nat, i < 50 → CoinB ((i : Int) + 1)
  | 0, _ => coin_1
  | 1, _ => coin_2
  | 2, _ => coin_3
  | 3, _ => coin_4
  | 4, _ => coin_5
  | 5, _ => coin_6
  | 6, _ => coin_7
  | 7, _ => coin_8
  | 8, _ => coin_9
  | 9, _ => coin_10
  | 10, _ => coin_11
  | 11, _ => coin_12
  | 12, _ => coin_13
  | 13, _ => coin_14
  | 14, _ => coin_15
  | 15, _ => coin_16
  | 16, _ => coin_17
  | 17, _ => coin_18
  | 18, _ => coin_19
  | 19, _ => coin_20
  | 20, _ => coin_21
  | 21, _ => coin_22
  | 22, _ => coin_23
  | 23, _ => coin_24
  | 24, _ => coin_25
  | 25, _ => coin_26
  | 26, _ => coin_27
  | 27, _ => coin_28
  | 28, _ => coin_29
  | 29, _ => coin_30
  | 30, _ => coin_31
  | 31, _ => coin_32
  | 32, _ => coin_33
  | 33, _ => coin_34
  | 34, _ => coin_35
  | 35, _ => coin_36
  | 36, _ => coin_37
  | 37, _ => coin_38
  | 38, _ => coin_39
  | 39, _ => coin_40
  | 40, _ => coin_41
  | 41, _ => coin_42
  | 42, _ => coin_43
  | 43, _ => coin_44
  | 44, _ => coin_45
  | 45, _ => coin_46
  | 46, _ => coin_47
  | 47, _ => coin_48
  | 48, _ => coin_49
  | 49, _ => coin_50
  | n + 50, h => absurd h (by omega)
theorem g_coin {b : Int} (h1 : 1 ≤ b) (h2 : b ≤ 50) (τ : Tape) : f__law_coins_right [.dat (.int b)] τ = some (.dat (.bool true), τ) := by
  have h := coin_nat (b - 1).toNat (by omega)
  rw [show (((b - 1).toNat : Nat) : Int) + 1 = b by omega] at h
  refine fn_rt ?_
  rw [cr_cut]
  exact seq_nx (c_0 b τ) <| seq_nx (c_1 b τ) <| seq_nx (c_2 b τ) <| seq_nx (c_3 b τ) <| seq_nx (c_4 b τ) <| seq_nx (c_5 b τ) <| seq_nx (c_6 b τ) <| seq_nx (c_7 b τ) <| seq_nx (h.d8 τ) <| h.d9 τ
theorem map_rep {α : Type} {n : Nat} {F : Nat → α} {c : α} (h : (List.range n).map F = List.replicate n c) {i : Nat} (hi : i < n) : F i = c := (List.eq_replicate_iff.mp h).2 _ (List.mem_map.mpr ⟨i, List.mem_range.mpr hi, rfl⟩)
theorem g_one0 (τ : Tape) : (List.range 10).map (fun (i : Nat) => f__law_one_right [.dat (.int ((i : Int) + 1))] τ) = List.replicate 10 (some (.dat (.bool true), τ)) := by kernel_rfl
theorem g_one1 (τ : Tape) : (List.range 10).map (fun (i : Nat) => f__law_one_right [.dat (.int ((i : Int) + 11))] τ) = List.replicate 10 (some (.dat (.bool true), τ)) := by kernel_rfl
theorem g_one2 (τ : Tape) : (List.range 10).map (fun (i : Nat) => f__law_one_right [.dat (.int ((i : Int) + 21))] τ) = List.replicate 10 (some (.dat (.bool true), τ)) := by kernel_rfl
theorem g_one3 (τ : Tape) : (List.range 10).map (fun (i : Nat) => f__law_one_right [.dat (.int ((i : Int) + 31))] τ) = List.replicate 10 (some (.dat (.bool true), τ)) := by kernel_rfl
theorem g_one4 (τ : Tape) : (List.range 10).map (fun (i : Nat) => f__law_one_right [.dat (.int ((i : Int) + 41))] τ) = List.replicate 10 (some (.dat (.bool true), τ)) := by kernel_rfl
theorem g_one {b : Int} (h1 : 1 ≤ b) (h2 : b ≤ 50) (τ : Tape) : f__law_one_right [.dat (.int b)] τ = some (.dat (.bool true), τ) := by
  have hc : (1 ≤ b ∧ b < 11) ∨ (11 ≤ b ∧ b < 21) ∨ (21 ≤ b ∧ b < 31) ∨ (31 ≤ b ∧ b < 41) ∨ (41 ≤ b ∧ b < 51) := by omega
  rcases hc with h | h | h | h | h
  · have := map_rep (g_one0 τ) (i := (b - 1).toNat) (by omega)
    rw [show (((b - 1).toNat : Nat) : Int) + 1 = b by omega] at this
    exact this
  · have := map_rep (g_one1 τ) (i := (b - 11).toNat) (by omega)
    rw [show (((b - 11).toNat : Nat) : Int) + 11 = b by omega] at this
    exact this
  · have := map_rep (g_one2 τ) (i := (b - 21).toNat) (by omega)
    rw [show (((b - 21).toNat : Nat) : Int) + 21 = b by omega] at this
    exact this
  · have := map_rep (g_one3 τ) (i := (b - 31).toNat) (by omega)
    rw [show (((b - 31).toNat : Nat) : Int) + 31 = b by omega] at this
    exact this
  · have := map_rep (g_one4 τ) (i := (b - 41).toNat) (by omega)
    rw [show (((b - 41).toNat : Nat) : Int) + 41 = b by omega] at this
    exact this
end ND

set_option Elab.async false
set_option linter.all false
set_option maxRecDepth 100000
set_option maxHeartbeats 4000000
/-! G2: law k16, the whole -/
namespace ND
open PySem PySem.SeqAt
local macro_rules | `(tactic| walk_at "ev0") => `(tactic| (first
  | with_reducible exact ev_nilA
  | with_reducible exact ev_yesB
  | with_reducible exact ev_noO
  | with_reducible exact ev_skip
  | with_reducible exact ev_brk
  | with_reducible exact ev_cnt
  | with_reducible exact ev_rt
  | with_reducible exact ev_bk
  | with_reducible exact ev_ct
  | with_reducible exact ev_nilG
  | with_reducible apply ev_nx
  | with_reducible apply ev_seq
  | with_reducible apply ev_op2
  | with_reducible apply ev_un1
  | with_reducible apply ev_consA
  | with_reducible apply ev_callF
  | with_reducible apply ev_callD
  | with_reducible apply ev_tst
  | with_reducible apply ev_notB
  | with_reducible apply ev_andB
  | with_reducible apply ev_orB
  | with_reducible apply ev_andE
  | with_reducible apply ev_orE
  | with_reducible apply ev_notE
  | with_reducible apply ev_ifE
  | with_reducible apply ev_tup
  | with_reducible apply ev_lst
  | with_reducible apply ev_ofN
  | with_reducible apply ev_addN
  | with_reducible apply ev_someO
  | with_reducible apply ev_sl
  | with_reducible apply ev_chain
  | with_reducible apply ev_chainR
  | with_reducible apply ev_seqI
  | with_reducible apply ev_rng1
  | with_reducible apply ev_rng2
  | with_reducible apply ev_zip
  | with_reducible apply ev_enum
  | with_reducible apply ev_listN
  | with_reducible apply ev_rg2
  | with_reducible apply ev_ret
  | with_reducible apply ev_set
  | with_reducible apply ev_own
  | with_reducible apply ev_if
  | with_reducible apply ev_par
  | with_reducible apply ev_unp
  | with_reducible apply ev_tupG
  | with_reducible apply ev_consG
  | with_reducible apply ev_nameG
  | with_reducible apply ev_aug
  | with_reducible apply ev_app
  | with_reducible apply ev_setIx
  | with_reducible apply ev_ins
  | with_reducible apply ev_popAt
  | with_reducible apply ev_for
  | with_reducible apply ev_lc
  | with_reducible apply ev_lc2
  | with_reducible apply ev_set2
  | with_reducible apply ev_parOwn
  | with_reducible apply ev_unpSub
  | with_reducible apply ev_setD
  | with_reducible apply ev_ownK
  | with_reducible apply ev_parKL
  | with_reducible apply ev_disp
  | with_reducible exact ev_dnew
  | with_reducible apply ev_lcA
  | with_reducible apply ev_lcAR
  | with_reducible apply ev_lcL
  | with_reducible apply ev_lcR
  | with_reducible apply ev_lc2L
  | ((with_reducible show ∀ _ ∈ _, _); intro a ha)
  | ((with_reducible show _ = true → _); intro ht)))
local macro_rules | `(tactic| walk_at "lf") => `(tactic| (first
  | ((with_reducible show _ = _); with_reducible assumption)
  | ((with_reducible show wipeD _ _ = _); first | (simp only [wipeD, List.set_cons_succ, List.set_cons_zero]; exact rfl) | exact rfl)
  | ((with_reducible show var _ _ _ = _); exact rfl)
  | ((with_reducible show bvar _ _ _ = _); exact rfl)
  | ((with_reducible show cst _ _ _ = _); exact rfl)
  | ((with_reducible show tapeIx _ _ _ _ = _); exact rfl)
  | ((with_reducible show List.set _ _ _ = _); first | (simp only [List.set_cons_succ, List.set_cons_zero]; exact rfl) | exact rfl)
  | ((with_reducible show List.foldl _ _ _ = _); first | (simp only [List.zip_cons_cons, List.zip_nil_right, List.zip_nil_left, List.foldl_cons, List.foldl_nil, List.set_cons_succ, List.set_cons_zero]; exact rfl) | exact rfl)
  | ((with_reducible show mergeD _ _ _ = _); first | (simp only [mergeD, keepVal_none, keepVal_val, List.getElem?_cons_succ, List.getElem?_cons_zero, List.set_cons_succ, List.set_cons_zero]; exact rfl) | exact rfl)
  | ((with_reducible show datsOf _ = _); exact rfl)
  | ((with_reducible show some _ = some _); exact rfl)
  | ((with_reducible show ownAt _ _ = _); exact rfl)
  | ((with_reducible show ownDAt _ _ = _); exact rfl)
  | with_reducible exact ltW_int
  | with_reducible exact leW_int
  | with_reducible exact gtW_int
  | with_reducible exact geW_int
  | with_reducible exact eqW_int
  | with_reducible exact neW_int
  | ((with_reducible show addW _ _ = _); with_reducible exact addW_int)
  | (with_reducible apply CT.mk; with_reducible assumption)
  | ((with_reducible show _ = _); (with_reducible apply_assumption only [*] <;> with_reducible assumption); done)
  | (with_reducible apply CT.mk; (with_reducible apply_assumption only [*] <;> with_reducible assumption); done)
  | (with_reducible apply ev_f; (focus (first | with_reducible assumption | with_reducible rfl | (simp; done) | (simp; omega))))
  | (with_reducible apply ev_t; (focus (first | with_reducible assumption | with_reducible rfl | (simp; done) | (simp; omega))))
  | with_reducible apply ev_both
  | ((with_reducible show itemsOf _ = _); exact rfl)
  | ((with_reducible show zipV _ = _); exact rfl)
  | ((with_reducible show enumV _ = _); exact rfl)
  | ((with_reducible show listV _ = _); exact rfl)
  | ((with_reducible show subW _ _ = _); exact rfl)
  | ((with_reducible show negF _ = _); exact rfl)
  | ((with_reducible show isiW _ _ = _); exact rfl)
  | ((with_reducible show lenF _ = _); exact rfl)
  | ((with_reducible show tupleF _ = _); exact rfl)
  | ((with_reducible show revW _ = _); exact rfl)
  | ((with_reducible show max2F _ = _); exact rfl)
  | ((with_reducible show slP _ _ _ = _); exact rfl)
  | ((with_reducible show List.length _ = _); simp; done)
  | ((with_reducible show _ ≤ _); first | with_reducible assumption | (simp; done) | (simp; omega))
  | ((with_reducible show _ < _); first | with_reducible assumption | (simp; done) | (simp; omega))
  | ((with_reducible show _ ∧ _); first | with_reducible assumption | (simp; done) | omega | (simp; omega))))
local macro_rules | `(tactic| walk_at "ev") => `(tactic| repeat' (first | walk_at "ev0" | walk_at "lf"))
local macro_rules | `(tactic| walk_at "ea") => `(tactic| repeat' (first | ((with_reducible show _ = _); with_reducible assumption) | walk_at "ev0" | walk_at "lf"))
theorem draw_v1 : f__law_drawv1 = f__law_draw := rfl
def e16 (x2 x3 : Option Sl) : EnvD := [none, some (.val .tape), x2, x3]
def P16 (ρ : EnvD) : Prop := ∃ x2 x3, ρ = e16 x2 x3
theorem for_invG {g : GF} {F : SF} (P : EnvD → Prop) : ∀ (ds : List PyData), (∀ d ∈ ds, ∀ ρ τ, P ρ → TOk τ → ∃ ρ1 ρ2 τ2, g d ρ = some ρ1 ∧ F ρ1 τ = some (.nx ρ2 τ2) ∧ P ρ2 ∧ TOk τ2) → ∀ ρ τ, P ρ → TOk τ → ∃ ρ' τ', forL g F ds ρ τ = some (.nx ρ' τ') ∧ P ρ' ∧ TOk τ'
  | [], _, ρ, τ, p, t => ⟨ρ, τ, rfl, p, t⟩
  | d :: ds, h, ρ, τ, p, t => by
    obtain ⟨ρ1, ρ2, τ2, e1, e2, p2, t2⟩ := h d List.mem_cons_self ρ τ p t
    obtain ⟨ρ', τ', e3, p3, t3⟩ := for_invG P ds (fun d m => h d (List.mem_cons_of_mem _ m)) ρ2 τ2 p2 t2
    exact ⟨ρ', τ', ev_forC e1 e2 e3, p3, t3⟩
theorem k16_turn {x2 x3 : Option Sl} {τ : Tape} (t : TOk τ) : ∃ τ' ρ', TOk τ' ∧ P16 ρ' ∧ lk16_2_0 (e16 x2 x3) τ = some (.nx ρ' τ') := by
  obtain ⟨r, τ1, e1, r0, r1, t1⟩ := draw_ex (m := 50) (by decide) (by decide) t
  rw [← draw_v1] at e1
  have q1 := g_rows (b := 1 + r) (by omega) (by omega) τ1
  have q2 := g_coin (b := 1 + r) (by omega) (by omega) τ1
  have q3 := g_one (b := 1 + r) (by omega) (by omega) τ1
  refine ⟨τ1, e16 x2 (vd (.int (1 + r))), t1, ⟨_, _, rfl⟩, ?_⟩
  unfold lk16_2_0
  refine ev_seq (ev_set (ev_op2 rfl (ev_callD (ev_consA rfl (ev_consA rfl ev_nilA)) ⟨e1⟩) rfl) rfl) (ev_nx ?_)
  unfold lk16_2_1
  exact ev_if (ev_orB (ev_notB (ev_tst (ev_callD (ev_consA rfl ev_nilA) ⟨q1⟩))) (ev_f rfl (ev_orB (ev_notB (ev_tst (ev_callD (ev_consA rfl ev_nilA) ⟨q2⟩))) (ev_f rfl (ev_notB (ev_tst (ev_callD (ev_consA rfl ev_nilA) ⟨q3⟩))))))) (ev_f rfl ev_skip)
theorem law_k16 (ns : List Int) (_ : ns.length ≤ 63) : ∃ τ, b_law_k16 (lawE 4) (lawT ns) = some (.rt (.dat (.bool true)) τ) := by
  have t : TOk (lawT ns) := ⟨Int.le_refl _, Int.le_refl _⟩
  obtain ⟨ρ', τ', e, p, t'⟩ := for_invG (g := nameG 2) (F := lk16_2_0) P16 (rangeD 0 ((3 : Int)).toNat) (fun d _ ρ τ p t => by
    obtain ⟨x2, x3, rfl⟩ := p
    obtain ⟨τ', ρ', t', p', e⟩ := k16_turn (x2 := some (.val (.dat d))) (x3 := x3) t
    exact ⟨_, ρ', τ', rfl, e, p', t'⟩) (e16 none none) (lawT ns) ⟨_, _, rfl⟩ t
  refine ⟨τ', ?_⟩
  show b_law_k16 (e16 none none) (lawT ns) = _
  unfold b_law_k16 lk16_1_0 lk16_1_1
  exact ev_seq (ev_for (ev_rng1 (ev_consA rfl ev_nilA) (by decide)) e) (ev_nx (ev_ret rfl))
end ND

set_option Elab.async false
set_option linter.all false
set_option maxRecDepth 100000
set_option maxHeartbeats 4000000
set_option pp.maxSteps 300
/-! the walk through the defs of law k16 (printed by gen.py) -/
namespace ND
open PySem PySem.Spec L2
open PyProof.Rows hiding St
namespace K16
def topS (i : Nat) : Stmt := PySem.Challenge.pw_nestdolls_k16_written_cases_and_names.main.body.getD i (.Pass ⟨0, 0, 0, 0⟩)
abbrev s_is_within : Stmt := topS 6
abbrev n_is_within : List Str := ["thing", "low", "high"]
theorem sc_is_within : FnScope n_is_within ["thing", "low", "high"] (defScope s_is_within) := ⟨rfl, rfl, rfl, by decide +kernel, rfl, by decide +kernel, by decide +kernel⟩
abbrev s_rise : Stmt := topS 7
abbrev n_rise : List Str := ["some", "one", "two"]
theorem sc_rise : FnScope n_rise ["some"] (defScope s_rise) := ⟨rfl, rfl, rfl, by decide +kernel, rfl, by decide +kernel, by decide +kernel⟩
abbrev s_is_stack : Stmt := topS 8
abbrev n_is_stack : List Str := ["thing", "doll"]
theorem sc_is_stack : FnScope n_is_stack ["thing"] (defScope s_is_stack) := ⟨rfl, rfl, rfl, by decide +kernel, rfl, by decide +kernel, by decide +kernel⟩
abbrev s_dolls : Stmt := topS 9
abbrev n_dolls : List Str := ["standing", "stack", "doll"]
theorem sc_dolls : FnScope n_dolls ["standing"] (defScope s_dolls) := ⟨rfl, rfl, rfl, by decide +kernel, rfl, by decide +kernel, by decide +kernel⟩
abbrev s_is_standing : Stmt := topS 10
abbrev n_is_standing : List Str := ["thing", "some", "stack"]
theorem sc_is_standing : FnScope n_is_standing ["thing"] (defScope s_is_standing) := ⟨rfl, rfl, rfl, by decide +kernel, rfl, by decide +kernel, by decide +kernel⟩
abbrev s_standings : Stmt := topS 11
abbrev n_standings : List Str := ["many", "found", "doll", "fresh", "standing", "at", "stack"]
theorem sc_standings : FnScope n_standings ["many"] (defScope s_standings) := ⟨rfl, rfl, rfl, by decide +kernel, rfl, by decide +kernel, by decide +kernel⟩
abbrev s_stack_of : Stmt := topS 12
abbrev n_stack_of : List Str := ["standing", "doll", "stack"]
theorem sc_stack_of : FnScope n_stack_of ["standing", "doll"] (defScope s_stack_of) := ⟨rfl, rfl, rfl, by decide +kernel, rfl, by decide +kernel, by decide +kernel⟩
abbrev s_within : Stmt := topS 13
abbrev n_within : List Str := ["standing", "doll", "stack"]
theorem sc_within : FnScope n_within ["standing", "doll"] (defScope s_within) := ⟨rfl, rfl, rfl, by decide +kernel, rfl, by decide +kernel, by decide +kernel⟩
abbrev s_moves : Stmt := topS 14
abbrev n_moves : List Str := ["standing", "spots", "found", "stack", "other"]
theorem sc_moves : FnScope n_moves ["standing", "spots"] (defScope s_moves) := ⟨rfl, rfl, rfl, by decide +kernel, rfl, by decide +kernel, by decide +kernel⟩
abbrev s_moved : Stmt := topS 15
abbrev n_moved : List Str := ["standing", "move", "doll", "rest", "stack"]
theorem sc_moved : FnScope n_moved ["standing", "move"] (defScope s_moved) := ⟨rfl, rfl, rfl, by decide +kernel, rfl, by decide +kernel, by decide +kernel⟩
abbrev s_is_move : Stmt := topS 16
abbrev n_is_move : List Str := ["standing", "spots", "thing", "part"]
theorem sc_is_move : FnScope n_is_move ["standing", "spots", "thing"] (defScope s_is_move) := ⟨rfl, rfl, rfl, by decide +kernel, rfl, by decide +kernel, by decide +kernel⟩
abbrev s_behind : Stmt := topS 17
abbrev n_behind : List Str := ["standing", "spots", "move"]
theorem sc_behind : FnScope n_behind ["standing", "spots", "move"] (defScope s_behind) := ⟨rfl, rfl, rfl, by decide +kernel, rfl, by decide +kernel, by decide +kernel⟩
abbrev s_led : Stmt := topS 18
abbrev n_led : List Str := ["standing", "spots", "row", "at", "move"]
theorem sc_led : FnScope n_led ["standing", "spots", "row"] (defScope s_led) := ⟨rfl, rfl, rfl, by decide +kernel, rfl, by decide +kernel, by decide +kernel⟩
abbrev s_unlike : Stmt := topS 21
abbrev n_unlike : List Str := ["standing", "other", "doll"]
theorem sc_unlike : FnScope n_unlike ["standing", "other"] (defScope s_unlike) := ⟨rfl, rfl, rfl, by decide +kernel, rfl, by decide +kernel, by decide +kernel⟩
abbrev s_floor : Stmt := topS 22
abbrev n_floor : List Str := ["standing", "other", "prices", "found", "doll", "empty"]
theorem sc_floor : FnScope n_floor ["standing", "other", "prices"] (defScope s_floor) := ⟨rfl, rfl, rfl, by decide +kernel, rfl, by decide +kernel, by decide +kernel⟩
abbrev s_price_of : Stmt := topS 23
abbrev n_price_of : List Str := ["move", "prices"]
theorem sc_price_of : FnScope n_price_of ["move", "prices"] (defScope s_price_of) := ⟨rfl, rfl, rfl, by decide +kernel, rfl, by decide +kernel, by decide +kernel⟩
abbrev s_toil_of : Stmt := topS 24
abbrev n_toil_of : List Str := ["row", "prices", "move"]
theorem sc_toil_of : FnScope n_toil_of ["row", "prices"] (defScope s_toil_of) := ⟨rfl, rfl, rfl, by decide +kernel, rfl, by decide +kernel, by decide +kernel⟩
abbrev s_all_standings : Stmt := topS 25
abbrev n_all_standings : List Str := ["other", "spots", "standing"]
theorem sc_all_standings : FnScope n_all_standings ["other", "spots"] (defScope s_all_standings) := ⟨rfl, rfl, rfl, by decide +kernel, rfl, by decide +kernel, by decide +kernel⟩
abbrev s_far : Stmt := topS 26
abbrev n_far : List Str := ["other", "spots", "prices", "found", "open_ones", "toil", "many", "here", "move", "there", "pair", "standing"]
theorem sc_far : FnScope n_far ["other", "spots", "prices"] (defScope s_far) := ⟨rfl, rfl, rfl, by decide +kernel, rfl, by decide +kernel, by decide +kernel⟩
abbrev s_least_row : Stmt := topS 27
abbrev n_least_row : List Str := ["standing", "other", "spots", "prices", "known", "row", "toil", "many", "move", "there"]
theorem sc_least_row : FnScope n_least_row ["standing", "other", "spots", "prices"] (defScope s_least_row) := ⟨rfl, rfl, rfl, by decide +kernel, rfl, by decide +kernel, by decide +kernel⟩
abbrev s_toil_paper : Stmt := topS 28
abbrev n_toil_paper : List Str := ["other", "spots", "prices", "known", "some", "standing"]
theorem sc_toil_paper : FnScope n_toil_paper ["other", "spots", "prices"] (defScope s_toil_paper) := ⟨rfl, rfl, rfl, by decide +kernel, rfl, by decide +kernel, by decide +kernel⟩
abbrev s_is_number : Stmt := topS 29
abbrev n_is_number : List Str := ["thing"]
theorem sc_is_number : FnScope n_is_number ["thing"] (defScope s_is_number) := ⟨rfl, rfl, rfl, by decide +kernel, rfl, by decide +kernel, by decide +kernel⟩
abbrev s_is_entry : Stmt := topS 30
abbrev n_is_entry : List Str := ["thing"]
theorem sc_is_entry : FnScope n_is_entry ["thing"] (defScope s_is_entry) := ⟨rfl, rfl, rfl, by decide +kernel, rfl, by decide +kernel, by decide +kernel⟩
abbrev s_falls : Stmt := topS 31
abbrev n_falls : List Str := ["told", "standing", "spots", "prices", "number", "move", "later"]
theorem sc_falls : FnScope n_falls ["told", "standing", "spots", "prices"] (defScope s_falls) := ⟨rfl, rfl, rfl, by decide +kernel, rfl, by decide +kernel, by decide +kernel⟩
abbrev s_is_toil_paper : Stmt := topS 32
abbrev n_is_toil_paper : List Str := ["other", "spots", "prices", "thing", "some", "told", "row", "standing"]
theorem sc_is_toil_paper : FnScope n_is_toil_paper ["other", "spots", "prices", "thing"] (defScope s_is_toil_paper) := ⟨rfl, rfl, rfl, by decide +kernel, rfl, by decide +kernel, by decide +kernel⟩
abbrev s_fraction : Stmt := topS 34
abbrev n_fraction : List Str := ["top", "bottom", "one", "other"]
theorem sc_fraction : FnScope n_fraction ["top", "bottom"] (defScope s_fraction) := ⟨rfl, rfl, rfl, by decide +kernel, rfl, by decide +kernel, by decide +kernel⟩
abbrev s_is_order : Stmt := topS 35
abbrev n_is_order : List Str := ["standing", "thing", "stack", "spots", "doll"]
theorem sc_is_order : FnScope n_is_order ["standing", "thing"] (defScope s_is_order) := ⟨rfl, rfl, rfl, by decide +kernel, rfl, by decide +kernel, by decide +kernel⟩
abbrev s_wait_by : Stmt := topS 36
abbrev n_wait_by : List Str := ["order", "prices", "chances", "time", "wait", "doll"]
theorem sc_wait_by : FnScope n_wait_by ["order", "prices", "chances"] (defScope s_wait_by) := ⟨rfl, rfl, rfl, by decide +kernel, rfl, by decide +kernel, by decide +kernel⟩
abbrev s_wait_of : Stmt := topS 37
abbrev n_wait_of : List Str := ["standing", "prices", "chances", "order"]
theorem sc_wait_of : FnScope n_wait_of ["standing", "prices", "chances", "order"] (defScope s_wait_of) := ⟨rfl, rfl, rfl, by decide +kernel, rfl, by decide +kernel, by decide +kernel⟩
abbrev s_is_less : Stmt := topS 40
abbrev n_is_less : List Str := ["one", "other"]
theorem sc_is_less : FnScope n_is_less ["one", "other"] (defScope s_is_less) := ⟨rfl, rfl, rfl, by decide +kernel, rfl, by decide +kernel, by decide +kernel⟩
abbrev s_worth : Stmt := topS 39
abbrev n_worth : List Str := ["lot", "prices", "chances", "doll"]
theorem sc_worth : FnScope n_worth ["lot", "prices", "chances"] (defScope s_worth) := ⟨rfl, rfl, rfl, by decide +kernel, rfl, by decide +kernel, by decide +kernel⟩
abbrev s_lots_of : Stmt := topS 38
abbrev n_lots_of : List Str := ["some", "prices", "chances", "found", "best", "size"]
theorem sc_lots_of : FnScope n_lots_of ["some", "prices", "chances"] (defScope s_lots_of) := ⟨rfl, rfl, rfl, by decide +kernel, rfl, by decide +kernel, by decide +kernel⟩
abbrev s_coin_paper : Stmt := topS 41
abbrev n_coin_paper : List Str := ["standing", "prices", "chances", "stack"]
theorem sc_coin_paper : FnScope n_coin_paper ["standing", "prices", "chances"] (defScope s_coin_paper) := ⟨rfl, rfl, rfl, by decide +kernel, rfl, by decide +kernel, by decide +kernel⟩
abbrev s_order_by : Stmt := topS 42
abbrev n_order_by : List Str := ["paper", "prices", "chances", "row", "lots", "lot", "value", "at", "doll", "one"]
theorem sc_order_by : FnScope n_order_by ["paper", "prices", "chances"] (defScope s_order_by) := ⟨rfl, rfl, rfl, by decide +kernel, rfl, by decide +kernel, by decide +kernel⟩
abbrev s_least_wait : Stmt := topS 43
abbrev n_least_wait : List Str := ["standing", "prices", "chances"]
theorem sc_least_wait : FnScope n_least_wait ["standing", "prices", "chances"] (defScope s_least_wait) := ⟨rfl, rfl, rfl, by decide +kernel, rfl, by decide +kernel, by decide +kernel⟩
abbrev s_finds_in : Stmt := topS 44
abbrev n_finds_in : List Str := ["standing", "prices", "chances"]
theorem sc_finds_in : FnScope n_finds_in ["standing", "prices", "chances"] (defScope s_finds_in) := ⟨rfl, rfl, rfl, by decide +kernel, rfl, by decide +kernel, by decide +kernel⟩
abbrev s_best_order : Stmt := topS 45
abbrev n_best_order : List Str := ["standing", "prices", "chances", "least", "left", "found", "doll", "rest", "paper", "order", "stack"]
theorem sc_best_order : FnScope n_best_order ["standing", "prices", "chances"] (defScope s_best_order) := ⟨rfl, rfl, rfl, by decide +kernel, rfl, by decide +kernel, by decide +kernel⟩
abbrev s_are_good : Stmt := topS 46
abbrev n_are_good : List Str := ["lots", "prices", "chances", "lot", "whole", "some", "size", "one", "other"]
theorem sc_are_good : FnScope n_are_good ["lots", "prices", "chances"] (defScope s_are_good) := ⟨rfl, rfl, rfl, by decide +kernel, rfl, by decide +kernel, by decide +kernel⟩
abbrev s_are_lots : Stmt := topS 47
abbrev n_are_lots : List Str := ["stack", "thing", "told", "lot", "doll"]
theorem sc_are_lots : FnScope n_are_lots ["stack", "thing"] (defScope s_are_lots) := ⟨rfl, rfl, rfl, by decide +kernel, rfl, by decide +kernel, by decide +kernel⟩
abbrev s_coin_shown : Stmt := topS 48
abbrev n_coin_shown : List Str := ["standing", "prices", "chances", "thing", "stack", "lots"]
theorem sc_coin_shown : FnScope n_coin_shown ["standing", "prices", "chances", "thing"] (defScope s_coin_shown) := ⟨rfl, rfl, rfl, by decide +kernel, rfl, by decide +kernel, by decide +kernel⟩
abbrev s_reached : Stmt := topS 50
abbrev n_reached : List Str := ["standing", "spots", "dearest", "prices", "found", "left", "here", "move", "there"]
theorem sc_reached : FnScope n_reached ["standing", "spots", "dearest", "prices"] (defScope s_reached) := ⟨rfl, rfl, rfl, by decide +kernel, rfl, by decide +kernel, by decide +kernel⟩
abbrev s_any_price : Stmt := topS 51
abbrev n_any_price : List Str := ["standing"]
theorem sc_any_price : FnScope n_any_price ["standing"] (defScope s_any_price) := ⟨rfl, rfl, rfl, by decide +kernel, rfl, by decide +kernel, by decide +kernel⟩
abbrev s_comes_to : Stmt := topS 52
abbrev n_comes_to : List Str := ["standing", "spots"]
theorem sc_comes_to : FnScope n_comes_to ["standing", "spots"] (defScope s_comes_to) := ⟨rfl, rfl, rfl, by decide +kernel, rfl, by decide +kernel, by decide +kernel⟩
abbrev s_fewest_spots : Stmt := topS 53
abbrev n_fewest_spots : List Str := ["standing", "other", "spots"]
theorem sc_fewest_spots : FnScope n_fewest_spots ["standing", "other"] (defScope s_fewest_spots) := ⟨rfl, rfl, rfl, by decide +kernel, rfl, by decide +kernel, by decide +kernel⟩
abbrev s_fence : Stmt := topS 54
abbrev n_fence : List Str := ["standing", "other", "spots", "found"]
theorem sc_fence : FnScope n_fence ["standing", "other", "spots"] (defScope s_fence) := ⟨rfl, rfl, rfl, by decide +kernel, rfl, by decide +kernel, by decide +kernel⟩
abbrev s_is_fence : Stmt := topS 55
abbrev n_is_fence : List Str := ["standing", "other", "spots", "thing", "part", "move"]
theorem sc_is_fence : FnScope n_is_fence ["standing", "other", "spots", "thing"] (defScope s_is_fence) := ⟨rfl, rfl, rfl, by decide +kernel, rfl, by decide +kernel, by decide +kernel⟩
abbrev s_least_dearest : Stmt := topS 56
abbrev n_least_dearest : List Str := ["standing", "other", "spots", "prices", "price"]
theorem sc_least_dearest : FnScope n_least_dearest ["standing", "other", "spots", "prices"] (defScope s_least_dearest) := ⟨rfl, rfl, rfl, by decide +kernel, rfl, by decide +kernel, by decide +kernel⟩
abbrev s__law_draw : Stmt := topS 58
abbrev n__law_draw : List Str := ["tape", "much_of", "prime", "cell", "found"]
theorem sc__law_draw : FnScope n__law_draw ["tape", "much_of"] (defScope s__law_draw) := ⟨rfl, rfl, rfl, by decide +kernel, rfl, by decide +kernel, by decide +kernel⟩
abbrev s__law_like : Stmt := topS 59
abbrev n__law_like : List Str := ["one", "two", "k"]
theorem sc__law_like : FnScope n__law_like ["one", "two"] (defScope s__law_like) := ⟨rfl, rfl, rfl, by decide +kernel, rfl, by decide +kernel, by decide +kernel⟩
abbrev s__law_rows_right : Stmt := topS 60
abbrev n__law_rows_right : List Str := ["by", "one", "my_other", "my_prices", "due", "paper", "ends"]
theorem sc__law_rows_right : FnScope n__law_rows_right ["by"] (defScope s__law_rows_right) := ⟨rfl, rfl, rfl, by decide +kernel, rfl, by decide +kernel, by decide +kernel⟩
abbrev s__law_one_right : Stmt := topS 61
abbrev n__law_one_right : List Str := ["by", "sole", "told"]
theorem sc__law_one_right : FnScope n__law_one_right ["by"] (defScope s__law_one_right) := ⟨rfl, rfl, rfl, by decide +kernel, rfl, by decide +kernel, by decide +kernel⟩
abbrev s__law_coins_right : Stmt := topS 62
abbrev n__law_coins_right : List Str := ["by", "my_standing", "my_prices", "my_chances", "paper", "like"]
theorem sc__law_coins_right : FnScope n__law_coins_right ["by"] (defScope s__law_coins_right) := ⟨rfl, rfl, rfl, by decide +kernel, rfl, by decide +kernel, by decide +kernel⟩
abbrev s_law : Stmt := topS 63
abbrev n_law : List Str := ["script", "tape", "turn", "by"]
theorem sc_law : FnScope n_law ["script"] (defScope s_law) := ⟨rfl, rfl, rfl, by decide +kernel, rfl, by decide +kernel, by decide +kernel⟩
/-- what the top has written -/
structure Top (K : PySem.W.Frag) (mg : Str → Option Value) : Prop where
  m_all : mg "all" = none
  m_any : mg "any" = none
  m_bool : mg "bool" = none
  m_dict : mg "dict" = none
  m_enumerate : mg "enumerate" = none
  m_int : mg "int" = none
  m_isinstance : mg "isinstance" = none
  m_len : mg "len" = none
  m_list : mg "list" = none
  m_max : mg "max" = none
  m_min : mg "min" = none
  m_range : mg "range" = none
  m_sorted : mg "sorted" = none
  m_sum : mg "sum" = none
  m_tuple : mg "tuple" = none
  m_zip : mg "zip" = none
  c_MOST_DOLLS : ∃ z, mg "MOST_DOLLS" = some (.int 6 z)
  c_NEVER : mg "NEVER" = some .none
  d_is_within : Df K mg "is_within" s_is_within ["thing", "low", "high"]
  d_rise : Df K mg "rise" s_rise ["some"]
  d_is_stack : Df K mg "is_stack" s_is_stack ["thing"]
  d_dolls : Df K mg "dolls" s_dolls ["standing"]
  d_is_standing : Df K mg "is_standing" s_is_standing ["thing"]
  d_standings : Df K mg "standings" s_standings ["many"]
  d_stack_of : Df K mg "stack_of" s_stack_of ["standing", "doll"]
  d_within : Df K mg "within" s_within ["standing", "doll"]
  d_moves : Df K mg "moves" s_moves ["standing", "spots"]
  d_moved : Df K mg "moved" s_moved ["standing", "move"]
  d_is_move : Df K mg "is_move" s_is_move ["standing", "spots", "thing"]
  d_behind : Df K mg "behind" s_behind ["standing", "spots", "move"]
  d_led : Df K mg "led" s_led ["standing", "spots", "row"]
  d_unlike : Df K mg "unlike" s_unlike ["standing", "other"]
  d_floor : Df K mg "floor" s_floor ["standing", "other", "prices"]
  d_price_of : Df K mg "price_of" s_price_of ["move", "prices"]
  d_toil_of : Df K mg "toil_of" s_toil_of ["row", "prices"]
  d_all_standings : Df K mg "all_standings" s_all_standings ["other", "spots"]
  d_far : Df K mg "far" s_far ["other", "spots", "prices"]
  d_least_row : Df K mg "least_row" s_least_row ["standing", "other", "spots", "prices"]
  d_toil_paper : Df K mg "toil_paper" s_toil_paper ["other", "spots", "prices"]
  d_is_number : Df K mg "is_number" s_is_number ["thing"]
  d_is_entry : Df K mg "is_entry" s_is_entry ["thing"]
  d_falls : Df K mg "falls" s_falls ["told", "standing", "spots", "prices"]
  d_is_toil_paper : Df K mg "is_toil_paper" s_is_toil_paper ["other", "spots", "prices", "thing"]
  d_fraction : Df K mg "fraction" s_fraction ["top", "bottom"]
  d_is_order : Df K mg "is_order" s_is_order ["standing", "thing"]
  d_wait_by : Df K mg "wait_by" s_wait_by ["order", "prices", "chances"]
  d_wait_of : Df K mg "wait_of" s_wait_of ["standing", "prices", "chances", "order"]
  d_is_less : Df K mg "is_less" s_is_less ["one", "other"]
  d_worth : Df K mg "worth" s_worth ["lot", "prices", "chances"]
  d_lots_of : Df K mg "lots_of" s_lots_of ["some", "prices", "chances"]
  d_coin_paper : Df K mg "coin_paper" s_coin_paper ["standing", "prices", "chances"]
  d_order_by : Df K mg "order_by" s_order_by ["paper", "prices", "chances"]
  d_least_wait : Df K mg "least_wait" s_least_wait ["standing", "prices", "chances"]
  d_finds_in : Df K mg "finds_in" s_finds_in ["standing", "prices", "chances"]
  d_best_order : Df K mg "best_order" s_best_order ["standing", "prices", "chances"]
  d_are_good : Df K mg "are_good" s_are_good ["lots", "prices", "chances"]
  d_are_lots : Df K mg "are_lots" s_are_lots ["stack", "thing"]
  d_coin_shown : Df K mg "coin_shown" s_coin_shown ["standing", "prices", "chances", "thing"]
  d_reached : Df K mg "reached" s_reached ["standing", "spots", "dearest", "prices"]
  d_any_price : Df K mg "any_price" s_any_price ["standing"]
  d_comes_to : Df K mg "comes_to" s_comes_to ["standing", "spots"]
  d_fewest_spots : Df K mg "fewest_spots" s_fewest_spots ["standing", "other"]
  d_fence : Df K mg "fence" s_fence ["standing", "other", "spots"]
  d_is_fence : Df K mg "is_fence" s_is_fence ["standing", "other", "spots", "thing"]
  d_least_dearest : Df K mg "least_dearest" s_least_dearest ["standing", "other", "spots", "prices"]
  d__law_draw : Df K mg "_law_draw" s__law_draw ["tape", "much_of"]
  d__law_like : Df K mg "_law_like" s__law_like ["one", "two"]
  d__law_rows_right : Df K mg "_law_rows_right" s__law_rows_right ["by"]
  d__law_one_right : Df K mg "_law_one_right" s__law_one_right ["by"]
  d__law_coins_right : Df K mg "_law_coins_right" s__law_coins_right ["by"]
section
variable {P : Program} {w : World} {K : PySem.W.Frag} {mg : Str → Option Value} {base : Heap}
theorem v_is_within (t : Top K mg) : FnV P w K mg base "is_within" s_is_within ["thing", "low", "high"] 1 f_is_within := fnv_mk (k := 0) (N := n_is_within) (ps := ["thing", "low", "high"]) (B := b_is_within) sc_is_within <| fun f cdv A outer s H E hr => by
    have nd := sc_is_within.nd
    exact dss_one (ds_ret (de_and (de_isA kit_int bb_int (by decide) (by decide) (by rfl) t.m_isinstance (by rfl) t.m_int (db_var 0)) (de_and (de_not (de_isA kit_bool bb_bool (by decide) (by decide) (by rfl) t.m_isinstance (by rfl) t.m_bool (db_var 0))) (de_one (de_chainLe (db_var 1) (db_var 0) (db_var 2))))))
theorem w_is_within (t : Top K mg) : Fn P w K mg base "is_within" 1 f_is_within := (v_is_within t).fn t.d_is_within
theorem v_rise (t : Top K mg) : FnV P w K mg base "rise" s_rise ["some"] 1 f_rise := fnv_mk (k := 0) (N := n_rise) (ps := ["some"]) (B := b_rise) sc_rise <| fun f cdv A outer s H E hr => by
    have nd := sc_rise.nd
    exact dss_one (ds_ret (dc_all rfl (by rfl) t.m_all (dab_cons (db_of (de_ofN (dn_lc (own := [("one", 1), ("two", 2)]) rfl nd (di_zip (by rfl) t.m_zip (da_cons (de_var 0) (da_cons (de_slice (db_var 0) (do_some (db_of (de_int))) (do_none)) (da_nil)))) (blkOk_by (N := n_rise) (sc := defScope s_rise) (own := [("one", 1), ("two", 2)]) (by decide +kernel)) (fun _ _ _ _ _ => dg_tup rfl (dgs_cons (dg_name (i := 1) nd rfl (Or.inl rfl)) (dgs_cons (dg_name (i := 2) nd rfl (Or.inl rfl)) (dgs_nil)))) (fun _ _ _ _ _ => dts_nil) (fun _ _ _ _ _ => de_lt hr.units (db_var 1) (db_var 2))))) (dab_nil))))
theorem w_rise (t : Top K mg) : Fn P w K mg base "rise" 1 f_rise := (v_rise t).fn t.d_rise
theorem v_is_stack (t : Top K mg) : FnV P w K mg base "is_stack" s_is_stack ["thing"] 2 f_is_stack := fnv_mk (k := 1) (N := n_is_stack) (ps := ["thing"]) (B := b_is_stack) sc_is_stack <| fun f cdv A outer s H E hr => by
    have nd := sc_is_stack.nd
    exact dss_cons (ds_if (dt_w (dw_or (dt_not (dt_val (de_isA kit_tuple bb_tuple (by decide) (by decide) (by rfl) t.m_isinstance (by rfl) t.m_tuple (db_var 0)))) (dw_or (dt_eq hr.units (db_of (dc_len (by rfl) t.m_len (dab_cons (db_var 0) (dab_nil)))) (db_of (de_int))) (dw_or1 (dt_not (dt_val (dc_all rfl (by rfl) t.m_all (dab_cons (db_of (de_ofN (dn_lc (own := [("doll", 1)]) rfl nd (di_seq (de_var 0)) (blkOk_by (N := n_is_stack) (sc := defScope s_is_stack) (own := [("doll", 1)]) (by decide +kernel)) (fun _ _ _ _ _ => dg_name (i := 1) nd rfl (Or.inl rfl)) (fun _ _ _ _ _ => dts_nil) (fun _ _ _ _ _ => de_fn (w_is_within t) hr (by omega) (by rfl) (da_cons (de_var 1) (da_cons (de_int) (da_cons (de_glI (by rfl) t.c_MOST_DOLLS.choose_spec) (da_nil)))))))) (dab_nil))))))))) (dss_one (ds_ret (de_bl))) (dss_nil)) <|
    dss_one (ds_ret (de_fn (w_rise t) hr (by omega) (by rfl) (da_cons (de_var 0) (da_nil))))
theorem w_is_stack (t : Top K mg) : Fn P w K mg base "is_stack" 2 f_is_stack := (v_is_stack t).fn t.d_is_stack
theorem v_dolls (t : Top K mg) : FnV P w K mg base "dolls" s_dolls ["standing"] 1 f_dolls := fnv_mk (k := 0) (N := n_dolls) (ps := ["standing"]) (B := b_dolls) sc_dolls <| fun f cdv A outer s H E hr => by
    have nd := sc_dolls.nd
    exact dss_one (ds_ret (dc_sorted hr.units (by rfl) t.m_sorted (dab_cons (db_of (de_ofN (dn_lc2 (own := [("stack", 1), ("doll", 2)]) (is1 := [2]) rfl nd (di_seq (de_var 0)) (blkOk_by (N := n_dolls) (sc := defScope s_dolls) (own := [("stack", 1), ("doll", 2)]) (by decide +kernel)) (fun _ _ _ _ _ => dg_name (i := 1) nd rfl (Or.inl rfl)) (fun _ _ _ _ _ => di_seq (de_var 1)) (fun _ _ _ _ _ => dg_name (i := 2) nd rfl (Or.inl rfl)) (fun _ _ _ _ _ => dts_nil) (fun _ _ _ _ _ => de_var 2)))) (dab_nil))))
theorem w_dolls (t : Top K mg) : Fn P w K mg base "dolls" 1 f_dolls := (v_dolls t).fn t.d_dolls
theorem v_is_standing (t : Top K mg) : FnV P w K mg base "is_standing" s_is_standing ["thing"] 3 f_is_standing := fnv_mk (k := 2) (N := n_is_standing) (ps := ["thing"]) (B := b_is_standing) sc_is_standing <| fun f cdv A outer s H E hr => by
    have nd := sc_is_standing.nd
    exact dss_cons (ds_if (dt_w (dw_or (dt_not (dt_val (de_isA kit_tuple bb_tuple (by decide) (by decide) (by rfl) t.m_isinstance (by rfl) t.m_tuple (db_var 0)))) (dw_or (dt_eq hr.units (db_of (dc_len (by rfl) t.m_len (dab_cons (db_var 0) (dab_nil)))) (db_of (de_int))) (dw_or1 (dt_not (dt_val (dc_all rfl (by rfl) t.m_all (dab_cons (db_of (de_ofN (dn_lc (own := [("stack", 2)]) rfl nd (di_seq (de_var 0)) (blkOk_by (N := n_is_standing) (sc := defScope s_is_standing) (own := [("stack", 2)]) (by decide +kernel)) (fun _ _ _ _ _ => dg_name (i := 2) nd rfl (Or.inl rfl)) (fun _ _ _ _ _ => dts_nil) (fun _ _ _ _ _ => de_fn (w_is_stack t) hr (by omega) (by rfl) (da_cons (de_var 2) (da_nil)))))) (dab_nil))))))))) (dss_one (ds_ret (de_bl))) (dss_nil)) <|
    dss_cons (ds_set (i := 1) nd rfl (Or.inl rfl) (de_fn (w_dolls t) hr (by omega) (by rfl) (da_cons (de_var 0) (da_nil)))) <|
    dss_one (ds_ret (de_and (de_fn (w_rise t) hr (by omega) (by rfl) (da_cons (de_var 0) (da_nil))) (de_one (de_eq hr.units (db_var 1) (db_of (de_ofN (dn_listRg2 (pe_listRg rfl (by rfl) t.m_list (prg_2 (by rfl) t.m_range (db_of (de_int)) (db_of (de_add (db_of (dc_len (by rfl) t.m_len (dab_cons (db_var 1) (dab_nil)))) (db_of (de_int)))))))))))))
theorem w_is_standing (t : Top K mg) : Fn P w K mg base "is_standing" 3 f_is_standing := (v_is_standing t).fn t.d_is_standing
theorem v_standings (t : Top K mg) : FnV P w K mg base "standings" s_standings ["many"] 1 f_standings := fnv_mk (k := 0) (N := n_standings) (ps := ["many"]) (B := b_standings) sc_standings <| fun f cdv A outer s H E hr => by
    have nd := sc_standings.nd
    exact dss_cons (ds_set (i := 1) nd rfl (Or.inl rfl) (de_ofN (dn_lst (da_cons (de_tup (da_nil)) (da_nil))))) <|
    dss_cons (ds_for PassesOwn.never rfl (di_range2 (by rfl) t.m_range (dab_cons (db_of (de_int)) (dab_cons (db_of (de_add (db_var 0) (db_of (de_int)))) (dab_nil)))) (dg_name (i := 2) nd rfl (Or.inl rfl)) (dss_cons (ds_own (i := 3) nd rfl (Or.inl rfl) (dn_lst (da_nil))) <|
    dss_cons (ds_for PassesOwn.never rfl (di_seq (de_var 1)) (dg_name (i := 4) nd rfl (Or.inl rfl)) (dss_cons (ds_app (ps_expr (pe_bm PySem.F.plainAttrs_list PySem.F.slot_list_append PySem.F.type_list_append mt_append (pv 3) (pa_cons (de_add (db_var 4) (db_of (de_tup (da_cons (de_tup (da_cons (de_var 2) (da_nil))) (da_nil))))) pa_nil)))) <|
    dss_one (ds_for PassesOwn.never rfl (di_enum (by rfl) t.m_enumerate (da_cons (de_var 4) (da_nil))) (dg_tup rfl (dgs_cons (dg_name (i := 5) nd rfl (Or.inl rfl)) (dgs_cons (dg_name (i := 6) nd rfl (Or.inl rfl)) (dgs_nil)))) (dss_one (ds_app (ps_expr (pe_bm PySem.F.plainAttrs_list PySem.F.slot_list_append PySem.F.type_list_append mt_append (pv 3) (pa_cons (de_add (db_of (de_add (db_of (de_slice (db_var 4) (do_none) (do_some (db_var 5)))) (db_of (de_tup (da_cons (de_add (db_var 6) (db_of (de_tup (da_cons (de_var 2) (da_nil))))) (da_nil)))))) (db_of (de_slice (db_var 4) (do_some (db_of (de_add (db_var 5) (db_of (de_int))))) (do_none)))) pa_nil)))))))) <|
    dss_one (ds_set (i := 1) nd rfl (Or.inl rfl) (de_var 3)))) <|
    dss_one (ds_ret (dc_sorted hr.units (by rfl) t.m_sorted (dab_cons (db_of (de_ofN (dn_lc (own := [("standing", 4)]) rfl nd (di_seq (de_var 1)) (blkOk_by (N := n_standings) (sc := defScope s_standings) (own := [("standing", 4)]) (by decide +kernel)) (fun _ _ _ _ _ => dg_name (i := 4) nd rfl (Or.inl rfl)) (fun _ _ _ _ _ => dts_nil) (fun _ _ _ _ _ => dc_tuple (by rfl) t.m_tuple (dab_cons (db_of (dc_sorted hr.units (by rfl) t.m_sorted (dab_cons (db_var 4) (dab_nil)))) (dab_nil)))))) (dab_nil))))
theorem w_standings (t : Top K mg) : Fn P w K mg base "standings" 1 f_standings := (v_standings t).fn t.d_standings
theorem v_stack_of (t : Top K mg) : FnV P w K mg base "stack_of" s_stack_of ["standing", "doll"] 1 f_stack_of := fnv_mk (k := 0) (N := n_stack_of) (ps := ["standing", "doll"]) (B := b_stack_of) sc_stack_of <| fun f cdv A outer s H E hr => by
    have nd := sc_stack_of.nd
    exact dss_one (ds_ret (de_ixS (db_of (de_ofN (dn_lc (own := [("stack", 2)]) rfl nd (di_seq (de_var 0)) (blkOk_by (N := n_stack_of) (sc := defScope s_stack_of) (own := [("stack", 2)]) (by decide +kernel)) (fun _ _ _ _ _ => dg_name (i := 2) nd rfl (Or.inl rfl)) (fun _ _ _ _ _ => dts_one (dt_in hr.u65 (db_var 1) (db_var 2))) (fun _ _ _ _ _ => de_var 2)))) (db_of (de_int)) (fun _ _ => rfl)))
theorem w_stack_of (t : Top K mg) : Fn P w K mg base "stack_of" 1 f_stack_of := (v_stack_of t).fn t.d_stack_of
theorem v_within (t : Top K mg) : FnV P w K mg base "within" s_within ["standing", "doll"] 2 f_within := fnv_mk (k := 1) (N := n_within) (ps := ["standing", "doll"]) (B := b_within) sc_within <| fun f cdv A outer s H E hr => by
    have nd := sc_within.nd
    exact dss_cons (ds_set (i := 2) nd rfl (Or.inl rfl) (de_fn (w_stack_of t) hr (by omega) (by rfl) (da_cons (de_var 0) (da_cons (de_var 1) (da_nil))))) <|
    dss_one (ds_ret (de_slice (db_var 2) (do_none) (do_some (db_of (de_index (pe_bmT PySem.F.slot_tuple_index PySem.F.type_tuple_index (mt_indexT hr.u65) (db_var 2) (pa_cons (db_var 1) pa_nil)))))))
theorem w_within (t : Top K mg) : Fn P w K mg base "within" 2 f_within := (v_within t).fn t.d_within
theorem v_moves (t : Top K mg) : FnV P w K mg base "moves" s_moves ["standing", "spots"] 1 f_moves := fnv_mk (k := 0) (N := n_moves) (ps := ["standing", "spots"]) (B := b_moves) sc_moves <| fun f cdv A outer s H E hr => by
    have nd := sc_moves.nd
    exact dss_cons (ds_own (i := 2) nd rfl (Or.inl rfl) (dn_lst (da_nil))) <|
    dss_cons (ds_for PassesOwn.never rfl (di_seq (de_var 0)) (dg_name (i := 3) nd rfl (Or.inl rfl)) (dss_cons (ds_for PassesOwn.never rfl (di_seq (de_var 0)) (dg_name (i := 4) nd rfl (Or.inl rfl)) (dss_one (ds_if (dt_w (dw_and (dt_eq hr.units (db_of (dc_len (by rfl) t.m_len (dab_cons (db_var 4) (dab_nil)))) (db_of (de_int))) (dw_and1 (dt_lt hr.units (db_of (de_ixS (db_var 3) (db_of (de_neg (db_of (de_int)))) (fun _ _ => rfl))) (db_of (de_ixS (db_var 4) (db_of (de_int)) (fun _ _ => rfl))))))) (dss_one (ds_app (ps_expr (pe_bm PySem.F.plainAttrs_list PySem.F.slot_list_append PySem.F.type_list_append mt_append (pv 2) (pa_cons (de_tup (da_cons (de_str) (da_cons (de_ixS (db_var 3) (db_of (de_neg (db_of (de_int)))) (fun _ _ => rfl)) (da_cons (de_ixS (db_var 4) (db_of (de_int)) (fun _ _ => rfl)) (da_nil))))) pa_nil))))) (dss_nil)))) <|
    dss_one (ds_if (dt_w (dw_and (dt_gt (db_of (dc_len (by rfl) t.m_len (dab_cons (db_var 3) (dab_nil)))) (db_of (de_int))) (dw_and1 (dt_lt hr.units (db_of (dc_len (by rfl) t.m_len (dab_cons (db_var 0) (dab_nil)))) (db_var 1))))) (dss_one (ds_app (ps_expr (pe_bm PySem.F.plainAttrs_list PySem.F.slot_list_append PySem.F.type_list_append mt_append (pv 2) (pa_cons (de_tup (da_cons (de_str) (da_cons (de_ixS (db_var 3) (db_of (de_neg (db_of (de_int)))) (fun _ _ => rfl)) (da_nil)))) pa_nil))))) (dss_nil)))) <|
    dss_one (ds_ret (dc_sorted hr.units (by rfl) t.m_sorted (dab_cons (db_var 2) (dab_nil))))
theorem w_moves (t : Top K mg) : Fn P w K mg base "moves" 1 f_moves := (v_moves t).fn t.d_moves
theorem v_moved (t : Top K mg) : FnV P w K mg base "moved" s_moved ["standing", "move"] 3 f_moved := fnv_mk (k := 2) (N := n_moved) (ps := ["standing", "move"]) (B := b_moved) sc_moved <| fun f cdv A outer s H E hr => by
    have nd := sc_moved.nd
    exact dss_cons (ds_set (i := 2) nd rfl (Or.inr rfl) (de_ixS (db_var 1) (db_of (de_neg (db_of (de_int)))) (fun _ _ => rfl))) <|
    dss_cons (ds_setLc (own := [("stack", 4)]) (i := 3) rfl nd rfl rfl (sw_true rfl rfl rfl (by decide +kernel)) (di_seq (de_var 0)) (blkOk_by (N := n_moved) (sc := defScope s_moved) (own := [("stack", 4)]) (by decide +kernel)) (fun _ _ _ _ _ => dg_name (i := 4) nd rfl (Or.inl rfl)) (fun _ _ _ _ _ => dts_one (dt_w (dw_and (dt_nin hr.u65 (db_var 2) (db_var 4)) (dw_and1 (dt_nin hr.u65 (db_of (de_ixS (db_var 1) (db_of (de_int)) (fun _ _ => rfl))) (db_var 4)))))) (fun _ _ _ _ _ => de_var 4)) <|
    dss_cons (ds_if (dt_eq hr.units (db_of (de_ixS (db_var 1) (db_of (de_int)) (fun _ _ => rfl))) (db_of (de_str))) (dss_one (ds_ret (dc_tuple (by rfl) t.m_tuple (dab_cons (db_of (dc_sorted hr.units (by rfl) t.m_sorted (dab_cons (db_of (de_add (db_var 3) (db_of (de_ofN (dn_lst (da_cons (de_fn (w_within t) hr (by omega) (by rfl) (da_cons (de_var 0) (da_cons (de_var 2) (da_nil)))) (da_cons (de_tup (da_cons (de_var 2) (da_nil))) (da_nil)))))))) (dab_nil)))) (dab_nil))))) (dss_nil)) <|
    dss_one (ds_ret (dc_tuple (by rfl) t.m_tuple (dab_cons (db_of (dc_sorted hr.units (by rfl) t.m_sorted (dab_cons (db_of (de_add (db_var 3) (db_of (de_ofN (dn_lst (da_cons (de_add (db_of (de_fn (w_stack_of t) hr (by omega) (by rfl) (da_cons (de_var 0) (da_cons (de_ixS (db_var 1) (db_of (de_int)) (fun _ _ => rfl)) (da_nil))))) (db_of (de_tup (da_cons (de_var 2) (da_nil))))) (da_nil))))))) (dab_nil)))) (dab_nil))))
theorem w_moved (t : Top K mg) : Fn P w K mg base "moved" 3 f_moved := (v_moved t).fn t.d_moved
theorem v_is_move (t : Top K mg) : FnV P w K mg base "is_move" s_is_move ["standing", "spots", "thing"] 2 f_is_move := fnv_mk (k := 1) (N := n_is_move) (ps := ["standing", "spots", "thing"]) (B := b_is_move) sc_is_move <| fun f cdv A outer s H E hr => by
    have nd := sc_is_move.nd
    exact dss_cons (ds_if (dt_w (dw_or (dt_not (dt_val (de_isA kit_tuple bb_tuple (by decide) (by decide) (by rfl) t.m_isinstance (by rfl) t.m_tuple (db_var 2)))) (dw_or1 (dt_val (dc_any rfl (by rfl) t.m_any (dab_cons (db_of (de_ofN (dn_lc (own := [("part", 3)]) rfl nd (di_seq (de_var 2)) (blkOk_by (N := n_is_move) (sc := defScope s_is_move) (own := [("part", 3)]) (by decide +kernel)) (fun _ _ _ _ _ => dg_name (i := 3) nd rfl (Or.inl rfl)) (fun _ _ _ _ _ => dts_nil) (fun _ _ _ _ _ => de_isA kit_bool bb_bool (by decide) (by decide) (by rfl) t.m_isinstance (by rfl) t.m_bool (db_var 3))))) (dab_nil))))))) (dss_one (ds_ret (de_bl))) (dss_nil)) <|
    dss_one (ds_ret (de_in hr.u65 (db_var 2) (db_of (de_fn (w_moves t) hr (by omega) (by rfl) (da_cons (de_var 0) (da_cons (de_var 1) (da_nil)))))))
theorem w_is_move (t : Top K mg) : Fn P w K mg base "is_move" 2 f_is_move := (v_is_move t).fn t.d_is_move
theorem v_behind (t : Top K mg) : FnV P w K mg base "behind" s_behind ["standing", "spots", "move"] 4 f_behind := fnv_mk (k := 3) (N := n_behind) (ps := ["standing", "spots", "move"]) (B := b_behind) sc_behind <| fun f cdv A outer s H E hr => by
    have nd := sc_behind.nd
    exact dss_cons (ds_if (dt_not (dt_val (de_fn (w_is_move t) hr (by omega) (by rfl) (da_cons (de_var 0) (da_cons (de_var 1) (da_cons (de_var 2) (da_nil))))))) (dss_one (ds_stuck)) (dss_nil)) <|
    dss_one (ds_ret (de_fn (w_moved t) hr (by omega) (by rfl) (da_cons (de_var 0) (da_cons (de_var 2) (da_nil)))))
theorem w_behind (t : Top K mg) : Fn P w K mg base "behind" 4 f_behind := (v_behind t).fn t.d_behind
theorem v_led (t : Top K mg) : FnV P w K mg base "led" s_led ["standing", "spots", "row"] 4 f_led := fnv_mk (k := 3) (N := n_led) (ps := ["standing", "spots", "row"]) (B := b_led) sc_led <| fun f cdv A outer s H E hr => by
    have nd := sc_led.nd
    exact dss_cons (ds_for PassesOwn.never rfl (di_enum (by rfl) t.m_enumerate (da_cons (de_var 2) (da_nil))) (dg_tup rfl (dgs_cons (dg_name (i := 3) nd rfl (Or.inl rfl)) (dgs_cons (dg_name (i := 4) nd rfl (Or.inl rfl)) (dgs_nil)))) (dss_cons (ds_if (dt_not (dt_val (de_fn (w_is_move t) hr (by omega) (by rfl) (da_cons (de_var 0) (da_cons (de_var 1) (da_cons (de_var 4) (da_nil))))))) (dss_one (ds_stuck)) (dss_nil)) <|
    dss_one (ds_set (i := 0) nd rfl (Or.inl rfl) (de_fn (w_moved t) hr (by omega) (by rfl) (da_cons (de_var 0) (da_cons (de_var 4) (da_nil))))))) <|
    dss_one (ds_ret (de_var 0))
theorem w_led (t : Top K mg) : Fn P w K mg base "led" 4 f_led := (v_led t).fn t.d_led
theorem v_unlike (t : Top K mg) : FnV P w K mg base "unlike" s_unlike ["standing", "other"] 3 f_unlike := fnv_mk (k := 2) (N := n_unlike) (ps := ["standing", "other"]) (B := b_unlike) sc_unlike <| fun f cdv A outer s H E hr => by
    have nd := sc_unlike.nd
    exact dss_one (ds_ret (de_ofN (dn_lc (own := [("doll", 2)]) rfl nd (di_seq (de_fn (w_dolls t) hr (by omega) (by rfl) (da_cons (de_var 0) (da_nil)))) (blkOk_by (N := n_unlike) (sc := defScope s_unlike) (own := [("doll", 2)]) (by decide +kernel)) (fun _ _ _ _ _ => dg_name (i := 2) nd rfl (Or.inl rfl)) (fun _ _ _ _ _ => dts_one (dt_ne hr.units (db_of (de_fn (w_within t) hr (by omega) (by rfl) (da_cons (de_var 0) (da_cons (de_var 2) (da_nil))))) (db_of (de_fn (w_within t) hr (by omega) (by rfl) (da_cons (de_var 1) (da_cons (de_var 2) (da_nil))))))) (fun _ _ _ _ _ => de_var 2))))
theorem w_unlike (t : Top K mg) : Fn P w K mg base "unlike" 3 f_unlike := (v_unlike t).fn t.d_unlike
theorem v_floor (t : Top K mg) : FnV P w K mg base "floor" s_floor ["standing", "other", "prices"] 4 f_floor := fnv_mk (k := 3) (N := n_floor) (ps := ["standing", "other", "prices"]) (B := b_floor) sc_floor <| fun f cdv A outer s H E hr => by
    have nd := sc_floor.nd
    exact dss_cons (ds_set (i := 3) nd rfl (Or.inl rfl) (de_int)) <|
    dss_cons (ds_for PassesOwn.never rfl (di_seq (de_fn (w_unlike t) hr (by omega) (by rfl) (da_cons (de_var 0) (da_cons (de_var 1) (da_nil))))) (dg_name (i := 4) nd rfl (Or.inl rfl)) (dss_cons (ds_set (i := 5) nd rfl (Or.inl rfl) (de_or (de_eq hr.units (db_of (de_fn (w_within t) hr (by omega) (by rfl) (da_cons (de_var 0) (da_cons (de_var 4) (da_nil))))) (db_of (de_tup (da_nil)))) (de_one (de_eq hr.units (db_of (de_fn (w_within t) hr (by omega) (by rfl) (da_cons (de_var 1) (da_cons (de_var 4) (da_nil))))) (db_of (de_tup (da_nil))))))) <|
    dss_one (ds_aug (i := 3) nd rfl (Or.inl rfl) (de_mul (db_of (de_ixS (db_var 2) (db_of (de_sub (db_var 4) (db_of (de_int)))) (fun _ _ => rfl))) (db_of (de_ifExp (dt_val (de_var 5)) (de_int) (de_int))))))) <|
    dss_one (ds_ret (de_var 3))
theorem w_floor (t : Top K mg) : Fn P w K mg base "floor" 4 f_floor := (v_floor t).fn t.d_floor
theorem v_price_of (t : Top K mg) : FnV P w K mg base "price_of" s_price_of ["move", "prices"] 1 f_price_of := fnv_mk (k := 0) (N := n_price_of) (ps := ["move", "prices"]) (B := b_price_of) sc_price_of <| fun f cdv A outer s H E hr => by
    have nd := sc_price_of.nd
    exact dss_one (ds_ret (de_ixS (db_var 1) (db_of (de_sub (db_of (de_ixS (db_var 0) (db_of (de_neg (db_of (de_int)))) (fun _ _ => rfl))) (db_of (de_int)))) (fun _ _ => rfl)))
theorem w_price_of (t : Top K mg) : Fn P w K mg base "price_of" 1 f_price_of := (v_price_of t).fn t.d_price_of
theorem v_toil_of (t : Top K mg) : FnV P w K mg base "toil_of" s_toil_of ["row", "prices"] 2 f_toil_of := fnv_mk (k := 1) (N := n_toil_of) (ps := ["row", "prices"]) (B := b_toil_of) sc_toil_of <| fun f cdv A outer s H E hr => by
    have nd := sc_toil_of.nd
    exact dss_one (ds_ret (dc_sum rfl (by rfl) t.m_sum (dab_cons (db_of (de_ofN (dn_lc (own := [("move", 2)]) rfl nd (di_seq (de_var 0)) (blkOk_by (N := n_toil_of) (sc := defScope s_toil_of) (own := [("move", 2)]) (by decide +kernel)) (fun _ _ _ _ _ => dg_name (i := 2) nd rfl (Or.inl rfl)) (fun _ _ _ _ _ => dts_nil) (fun _ _ _ _ _ => de_fn (w_price_of t) hr (by omega) (by rfl) (da_cons (de_var 2) (da_cons (de_var 1) (da_nil))))))) (dab_nil))))
theorem w_toil_of (t : Top K mg) : Fn P w K mg base "toil_of" 2 f_toil_of := (v_toil_of t).fn t.d_toil_of
theorem v_all_standings (t : Top K mg) : FnV P w K mg base "all_standings" s_all_standings ["other", "spots"] 2 f_all_standings := fnv_mk (k := 1) (N := n_all_standings) (ps := ["other", "spots"]) (B := b_all_standings) sc_all_standings <| fun f cdv A outer s H E hr => by
    have nd := sc_all_standings.nd
    exact dss_one (ds_ret (de_ofN (dn_lc (own := [("standing", 2)]) rfl nd (di_seq (de_fn (w_standings t) hr (by omega) (by rfl) (da_cons (dc_len (by rfl) t.m_len (dab_cons (db_of (de_fn (w_dolls t) hr (by omega) (by rfl) (da_cons (de_var 0) (da_nil)))) (dab_nil))) (da_nil)))) (blkOk_by (N := n_all_standings) (sc := defScope s_all_standings) (own := [("standing", 2)]) (by decide +kernel)) (fun _ _ _ _ _ => dg_name (i := 2) nd rfl (Or.inl rfl)) (fun _ _ _ _ _ => dts_one (dt_le (db_of (dc_len (by rfl) t.m_len (dab_cons (db_var 2) (dab_nil)))) (db_var 1))) (fun _ _ _ _ _ => de_var 2))))
theorem w_all_standings (t : Top K mg) : Fn P w K mg base "all_standings" 2 f_all_standings := (v_all_standings t).fn t.d_all_standings
theorem v_far (t : Top K mg) : FnV P w K mg base "far" s_far ["other", "spots", "prices"] 4 f_far := fnv_mk (k := 3) (N := n_far) (ps := ["other", "spots", "prices"]) (B := b_far) sc_far <| fun f cdv A outer s H E hr => by
    have nd := sc_far.nd
    exact dss_cons (ds_ownK (i := 3) nd rfl (Or.inl rfl) (dk_new)) <|
    dss_cons (ds_ownK (i := 4) nd rfl (Or.inl rfl) (dk_disp hr.u9 (de_var 0) (de_tup (da_cons (de_int) (da_cons (de_int) (da_nil)))))) <|
    dss_cons (ds_while 5000 PassesOwn.never (dt_gt (db_of (dc_lenK (by rfl) t.m_len (dab_cons (db_var 4) (dab_nil)))) (db_of (de_int))) (dss_cons (ds_unp (dc_minL rfl hr.units (by rfl) t.m_min (dab_cons (db_of (de_ofN (dn_lc (own := [("standing", 11), ("pair", 10)]) rfl nd (di_items (de_var 4)) (blkOk_by (N := n_far) (sc := defScope s_far) (own := [("standing", 11), ("pair", 10)]) (by decide +kernel)) (fun _ _ _ _ _ => dg_tup rfl (dgs_cons (dg_name (i := 11) nd rfl (Or.inl rfl)) (dgs_cons (dg_name (i := 10) nd rfl (Or.inl rfl)) (dgs_nil)))) (fun _ _ _ _ _ => dts_nil) (fun _ _ _ _ _ => de_tup (da_cons (de_var 10) (da_cons (de_var 11) (da_nil))))))) (dab_nil))) (dg_tup rfl (dgs_cons (dg_tup rfl (dgs_cons (dg_name (i := 5) nd rfl (Or.inl rfl)) (dgs_cons (dg_name (i := 6) nd rfl (Or.inl rfl)) (dgs_nil)))) (dgs_cons (dg_name (i := 7) nd rfl (Or.inr rfl)) (dgs_nil))))) <|
    dss_cons (ds_setD (ps_asg (de_tup (da_cons (de_var 5) (da_cons (de_var 6) (da_nil)))) (pg_sub (pv 3) (db_var 7) (set_dct hr.u9)))) <|
    dss_cons (ds_ownDc (own := [("standing", 11), ("pair", 10)]) (i := 4) hr.u9 rfl nd rfl rfl (swd_true rfl rfl rfl (by decide +kernel)) (di_items (de_var 4)) (blkOk_by (N := n_far) (sc := defScope s_far) (own := [("standing", 11), ("pair", 10)]) (by decide +kernel)) (fun _ _ _ _ _ => dg_tup rfl (dgs_cons (dg_name (i := 11) nd rfl (Or.inl rfl)) (dgs_cons (dg_name (i := 10) nd rfl (Or.inl rfl)) (dgs_nil)))) (fun _ _ _ _ _ => dts_one (dt_ne hr.units (db_var 11) (db_var 7))) (fun _ _ _ _ _ => de_var 11) (fun _ _ _ _ _ => de_var 10)) <|
    dss_one (ds_for PassesOwn.never rfl (di_seq (de_fn (w_moves t) hr (by omega) (by rfl) (da_cons (de_var 7) (da_cons (de_var 1) (da_nil))))) (dg_name (i := 8) nd rfl (Or.inl rfl)) (dss_cons (ds_set (i := 9) nd rfl (Or.inl rfl) (de_fn (w_moved t) hr (by omega) (by rfl) (da_cons (de_var 7) (da_cons (de_var 8) (da_nil))))) <|
    dss_cons (ds_set (i := 10) nd rfl (Or.inl rfl) (de_tup (da_cons (de_add (db_var 5) (db_of (de_fn (w_price_of t) hr (by omega) (by rfl) (da_cons (de_var 8) (da_cons (de_var 2) (da_nil)))))) (da_cons (de_add (db_var 6) (db_of (de_int))) (da_nil))))) <|
    dss_one (ds_if (dt_w (dw_and (dt_ninD hr.u65 (db_var 9) (db_var 3)) (dw_and1 (dt_lt hr.units (db_var 10) (db_of (de_get hr.u9 (db_var 4) (db_var 9) (de_tup (da_cons (de_add (db_of (de_ixS (db_var 10) (db_of (de_int)) (fun _ _ => rfl))) (db_of (de_int))) (da_cons (de_int) (da_nil)))) ⟨rfl, rfl, rfl, rfl⟩)))))) (dss_one (ds_setD (ps_asg (de_var 10) (pg_sub (pv 4) (db_var 9) (set_dct hr.u9))))) (dss_nil)))))) <|
    dss_one (ds_ret (de_var 3))
theorem w_far (t : Top K mg) : Fn P w K mg base "far" 4 f_far := (v_far t).fn t.d_far
theorem v_least_row (t : Top K mg) : FnV P w K mg base "least_row" s_least_row ["standing", "other", "spots", "prices"] 5 f_least_row := fnv_mk (k := 4) (N := n_least_row) (ps := ["standing", "other", "spots", "prices"]) (B := b_least_row) sc_least_row <| fun f cdv A outer s H E hr => by
    have nd := sc_least_row.nd
    exact dss_cons (ds_set (i := 4) nd rfl (Or.inl rfl) (de_fn (w_far t) hr (by omega) (by rfl) (da_cons (de_var 1) (da_cons (de_var 2) (da_cons (de_var 3) (da_nil)))))) <|
    dss_cons (ds_if (dt_ninD hr.u65 (db_var 0) (db_var 4)) (dss_one (ds_ret (de_glN (by rfl) t.c_NEVER))) (dss_nil)) <|
    dss_cons (ds_own (i := 5) nd rfl (Or.inl rfl) (dn_lst (da_nil))) <|
    dss_cons (ds_while 5000 PassesOwn.never (dt_ne hr.units (db_var 0) (db_var 1)) (dss_cons (ds_unp (de_ixD hr.u9 (db_var 4) (db_var 0) (fun _ _ => rfl)) (dg_tup rfl (dgs_cons (dg_name (i := 6) nd rfl (Or.inl rfl)) (dgs_cons (dg_name (i := 7) nd rfl (Or.inl rfl)) (dgs_nil))))) <|
    dss_cons (ds_for PassesOwn.never rfl (di_seq (de_fn (w_moves t) hr (by omega) (by rfl) (da_cons (de_var 0) (da_cons (de_var 2) (da_nil))))) (dg_name (i := 8) nd rfl (Or.inl rfl)) (dss_cons (ds_set (i := 9) nd rfl (Or.inl rfl) (de_fn (w_moved t) hr (by omega) (by rfl) (da_cons (de_var 0) (da_cons (de_var 8) (da_nil))))) <|
    dss_one (ds_if (dt_eq hr.units (db_of (de_get hr.u9 (db_var 4) (db_var 9) (de_glN (by rfl) t.c_NEVER) ⟨rfl, rfl, rfl, rfl⟩)) (db_of (de_tup (da_cons (de_sub (db_var 6) (db_of (de_fn (w_price_of t) hr (by omega) (by rfl) (da_cons (de_var 8) (da_cons (de_var 3) (da_nil)))))) (da_cons (de_sub (db_var 7) (db_of (de_int))) (da_nil)))))) (dss_one (ds_break)) (dss_nil)))) <|
    dss_cons (ds_app (ps_expr (pe_bm PySem.F.plainAttrs_list PySem.F.slot_list_append PySem.F.type_list_append mt_append (pv 5) (pa_cons (de_var 8) pa_nil)))) <|
    dss_one (ds_set (i := 0) nd rfl (Or.inl rfl) (de_var 9)))) <|
    dss_one (ds_ret (de_var 5))
theorem w_least_row (t : Top K mg) : Fn P w K mg base "least_row" 5 f_least_row := (v_least_row t).fn t.d_least_row
theorem v_toil_paper (t : Top K mg) : FnV P w K mg base "toil_paper" s_toil_paper ["other", "spots", "prices"] 5 f_toil_paper := fnv_mk (k := 4) (N := n_toil_paper) (ps := ["other", "spots", "prices"]) (B := b_toil_paper) sc_toil_paper <| fun f cdv A outer s H E hr => by
    have nd := sc_toil_paper.nd
    exact dss_cons (ds_set (i := 3) nd rfl (Or.inr rfl) (de_fn (w_far t) hr (by omega) (by rfl) (da_cons (de_var 0) (da_cons (de_var 1) (da_cons (de_var 2) (da_nil)))))) <|
    dss_cons (ds_set (i := 4) nd rfl (Or.inl rfl) (de_fn (w_all_standings t) hr (by omega) (by rfl) (da_cons (de_var 0) (da_cons (de_var 1) (da_nil))))) <|
    dss_one (ds_ret (dc_tuple (by rfl) t.m_tuple (dab_cons (db_of (de_ofN (dn_lc (own := [("standing", 5)]) rfl nd (di_seq (de_var 4)) (blkOk_by (N := n_toil_paper) (sc := defScope s_toil_paper) (own := [("standing", 5)]) (by decide +kernel)) (fun _ _ _ _ _ => dg_name (i := 5) nd rfl (Or.inl rfl)) (fun _ _ _ _ _ => dts_nil) (fun _ _ _ _ _ => de_tup (da_cons (de_var 5) (da_cons (de_ixS (db_of (de_get hr.u9 (db_var 3) (db_var 5) (de_tup (da_cons (de_glN (by rfl) t.c_NEVER) (da_cons (de_int) (da_nil)))) ⟨rfl, rfl, rfl, rfl⟩)) (db_of (de_int)) (fun _ _ => rfl)) (da_nil))))))) (dab_nil))))
theorem w_toil_paper (t : Top K mg) : Fn P w K mg base "toil_paper" 5 f_toil_paper := (v_toil_paper t).fn t.d_toil_paper
theorem v_is_number (t : Top K mg) : FnV P w K mg base "is_number" s_is_number ["thing"] 1 f_is_number := fnv_mk (k := 0) (N := n_is_number) (ps := ["thing"]) (B := b_is_number) sc_is_number <| fun f cdv A outer s H E hr => by
    have nd := sc_is_number.nd
    exact dss_one (ds_ret (de_or (de_is (db_var 0) (db_of (de_non))) (de_one (de_and (de_isA kit_int bb_int (by decide) (by decide) (by rfl) t.m_isinstance (by rfl) t.m_int (db_var 0)) (de_one (de_not (de_isA kit_bool bb_bool (by decide) (by decide) (by rfl) t.m_isinstance (by rfl) t.m_bool (db_var 0))))))))
theorem w_is_number (t : Top K mg) : Fn P w K mg base "is_number" 1 f_is_number := (v_is_number t).fn t.d_is_number
theorem v_is_entry (t : Top K mg) : FnV P w K mg base "is_entry" s_is_entry ["thing"] 4 f_is_entry := fnv_mk (k := 3) (N := n_is_entry) (ps := ["thing"]) (B := b_is_entry) sc_is_entry <| fun f cdv A outer s H E hr => by
    have nd := sc_is_entry.nd
    exact dss_one (ds_ret (de_and (de_isA kit_tuple bb_tuple (by decide) (by decide) (by rfl) t.m_isinstance (by rfl) t.m_tuple (db_var 0)) (de_and (de_eq hr.units (db_of (dc_len (by rfl) t.m_len (dab_cons (db_var 0) (dab_nil)))) (db_of (de_int))) (de_and (de_fn (w_is_standing t) hr (by omega) (by rfl) (da_cons (de_ixS (db_var 0) (db_of (de_int)) (fun _ _ => rfl)) (da_nil))) (de_one (de_fn (w_is_number t) hr (by omega) (by rfl) (da_cons (de_ixS (db_var 0) (db_of (de_int)) (fun _ _ => rfl)) (da_nil))))))))
theorem w_is_entry (t : Top K mg) : Fn P w K mg base "is_entry" 4 f_is_entry := (v_is_entry t).fn t.d_is_entry
theorem v_falls (t : Top K mg) : FnV P w K mg base "falls" s_falls ["told", "standing", "spots", "prices"] 4 f_falls := fnv_mk (k := 3) (N := n_falls) (ps := ["told", "standing", "spots", "prices"]) (B := b_falls) sc_falls <| fun f cdv A outer s H E hr => by
    have nd := sc_falls.nd
    exact dss_cons (ds_set (i := 4) nd rfl (Or.inl rfl) (de_ixD hr.u9 (db_var 0) (db_var 1) (fun _ _ => rfl))) <|
    dss_cons (ds_for PassesOwn.never rfl (di_seq (de_fn (w_moves t) hr (by omega) (by rfl) (da_cons (de_var 1) (da_cons (de_var 2) (da_nil))))) (dg_name (i := 5) nd rfl (Or.inl rfl)) (dss_cons (ds_set (i := 6) nd rfl (Or.inl rfl) (de_ixD hr.u9 (db_var 0) (db_of (de_fn (w_moved t) hr (by omega) (by rfl) (da_cons (de_var 1) (da_cons (de_var 5) (da_nil))))) (fun _ _ => rfl))) <|
    dss_one (ds_if (dt_w (dw_and (dt_isnt (db_var 6) (db_of (de_non))) (dw_and1 (dt_w (dw_or (dt_is (db_var 4) (db_of (de_non))) (dw_or1 (dt_gt (db_var 4) (db_of (de_add (db_of (de_fn (w_price_of t) hr (by omega) (by rfl) (da_cons (de_var 5) (da_cons (de_var 3) (da_nil))))) (db_var 6)))))))))) (dss_one (ds_ret (de_bl))) (dss_nil)))) <|
    dss_one (ds_ret (de_bl))
theorem w_falls (t : Top K mg) : Fn P w K mg base "falls" 4 f_falls := (v_falls t).fn t.d_falls
theorem v_is_toil_paper (t : Top K mg) : FnV P w K mg base "is_toil_paper" s_is_toil_paper ["other", "spots", "prices", "thing"] 5 f_is_toil_paper := fnv_mk (k := 4) (N := n_is_toil_paper) (ps := ["other", "spots", "prices", "thing"]) (B := b_is_toil_paper) sc_is_toil_paper <| fun f cdv A outer s H E hr => by
    have nd := sc_is_toil_paper.nd
    exact dss_cons (ds_if (dt_w (dw_or (dt_not (dt_val (de_isA kit_tuple bb_tuple (by decide) (by decide) (by rfl) t.m_isinstance (by rfl) t.m_tuple (db_var 3)))) (dw_or1 (dt_not (dt_val (dc_all rfl (by rfl) t.m_all (dab_cons (db_of (de_ofN (dn_lc (own := [("row", 6)]) rfl nd (di_seq (de_var 3)) (blkOk_by (N := n_is_toil_paper) (sc := defScope s_is_toil_paper) (own := [("row", 6)]) (by decide +kernel)) (fun _ _ _ _ _ => dg_name (i := 6) nd rfl (Or.inl rfl)) (fun _ _ _ _ _ => dts_nil) (fun _ _ _ _ _ => de_fn (w_is_entry t) hr (by omega) (by rfl) (da_cons (de_var 6) (da_nil)))))) (dab_nil)))))))) (dss_one (ds_ret (de_bl))) (dss_nil)) <|
    dss_cons (ds_set (i := 4) nd rfl (Or.inl rfl) (de_fn (w_all_standings t) hr (by omega) (by rfl) (da_cons (de_var 0) (da_cons (de_var 1) (da_nil))))) <|
    dss_cons (ds_if (dt_ne hr.units (db_of (de_ofN (dn_lc (own := [("row", 6)]) rfl nd (di_seq (de_var 3)) (blkOk_by (N := n_is_toil_paper) (sc := defScope s_is_toil_paper) (own := [("row", 6)]) (by decide +kernel)) (fun _ _ _ _ _ => dg_name (i := 6) nd rfl (Or.inl rfl)) (fun _ _ _ _ _ => dts_nil) (fun _ _ _ _ _ => de_ixS (db_var 6) (db_of (de_int)) (fun _ _ => rfl))))) (db_var 4)) (dss_one (ds_ret (de_bl))) (dss_nil)) <|
    dss_cons (ds_ownK (i := 5) nd rfl (Or.inr rfl) (dk_dictP hr.u10 rfl (by rfl) t.m_dict (da_cons (de_var 3) (da_nil)))) <|
    dss_cons (ds_if (dt_w (dw_or (dt_is (db_of (de_ixD hr.u9 (db_var 5) (db_var 0) (fun _ _ => rfl))) (db_of (de_non))) (dw_or1 (dt_gt (db_of (de_ixD hr.u9 (db_var 5) (db_var 0) (fun _ _ => rfl))) (db_of (de_int)))))) (dss_one (ds_ret (de_bl))) (dss_nil)) <|
    dss_one (ds_ret (dc_all rfl (by rfl) t.m_all (dab_cons (db_of (de_ofN (dn_lc (own := [("standing", 7)]) rfl nd (di_seq (de_var 4)) (blkOk_by (N := n_is_toil_paper) (sc := defScope s_is_toil_paper) (own := [("standing", 7)]) (by decide +kernel)) (fun _ _ _ _ _ => dg_name (i := 7) nd rfl (Or.inl rfl)) (fun _ _ _ _ _ => dts_one (dt_ne hr.units (db_var 7) (db_var 0))) (fun _ _ _ _ _ => de_fn (w_falls t) hr (by omega) (by rfl) (da_cons (de_var 5) (da_cons (de_var 7) (da_cons (de_var 1) (da_cons (de_var 2) (da_nil))))))))) (dab_nil))))
theorem w_is_toil_paper (t : Top K mg) : Fn P w K mg base "is_toil_paper" 5 f_is_toil_paper := (v_is_toil_paper t).fn t.d_is_toil_paper
theorem v_fraction (t : Top K mg) : FnV P w K mg base "fraction" s_fraction ["top", "bottom"] 1 f_fraction := fnv_mk (k := 0) (N := n_fraction) (ps := ["top", "bottom"]) (B := b_fraction) sc_fraction <| fun f cdv A outer s H E hr => by
    have nd := sc_fraction.nd
    exact dss_cons (ds_par2 (i := 2) (j := 3) rfl nd rfl rfl (by decide) rfl rfl (da_cons (de_var 0) (da_cons (de_var 1) (da_nil))) rfl) <|
    dss_cons (ds_while 5000 PassesOwn.never (dt_ne hr.units (db_var 3) (db_of (de_int))) (dss_one (ds_par2 (i := 2) (j := 3) rfl nd rfl rfl (by decide) rfl rfl (da_cons (de_var 3) (da_cons (de_mod (db_var 2) (db_var 3)) (da_nil))) rfl))) <|
    dss_one (ds_ret (de_tup (da_cons (de_fdiv (db_var 0) (db_var 2)) (da_cons (de_fdiv (db_var 1) (db_var 2)) (da_nil)))))
theorem w_fraction (t : Top K mg) : Fn P w K mg base "fraction" 1 f_fraction := (v_fraction t).fn t.d_fraction
theorem v_is_order (t : Top K mg) : FnV P w K mg base "is_order" s_is_order ["standing", "thing"] 2 f_is_order := fnv_mk (k := 1) (N := n_is_order) (ps := ["standing", "thing"]) (B := b_is_order) sc_is_order <| fun f cdv A outer s H E hr => by
    have nd := sc_is_order.nd
    exact dss_cons (ds_if (dt_w (dw_or (dt_not (dt_val (de_isA kit_tuple bb_tuple (by decide) (by decide) (by rfl) t.m_isinstance (by rfl) t.m_tuple (db_var 1)))) (dw_or1 (dt_not (dt_val (dc_all rfl (by rfl) t.m_all (dab_cons (db_of (de_ofN (dn_lc (own := [("doll", 4)]) rfl nd (di_seq (de_var 1)) (blkOk_by (N := n_is_order) (sc := defScope s_is_order) (own := [("doll", 4)]) (by decide +kernel)) (fun _ _ _ _ _ => dg_name (i := 4) nd rfl (Or.inl rfl)) (fun _ _ _ _ _ => dts_nil) (fun _ _ _ _ _ => de_fn (w_is_within t) hr (by omega) (by rfl) (da_cons (de_var 4) (da_cons (de_int) (da_cons (dc_len (by rfl) t.m_len (dab_cons (db_var 1) (dab_nil))) (da_nil)))))))) (dab_nil)))))))) (dss_one (ds_ret (de_bl))) (dss_nil)) <|
    dss_cons (ds_if (dt_ne hr.units (db_of (dc_sorted hr.units (by rfl) t.m_sorted (dab_cons (db_var 1) (dab_nil)))) (db_of (de_fn (w_dolls t) hr (by omega) (by rfl) (da_cons (de_var 0) (da_nil))))) (dss_one (ds_ret (de_bl))) (dss_nil)) <|
    dss_cons (ds_for PassesOwn.never rfl (di_seq (de_var 0)) (dg_name (i := 2) nd rfl (Or.inl rfl)) (dss_cons (ds_setLc (own := [("doll", 4)]) (i := 3) rfl nd rfl rfl (sw_true rfl rfl rfl (by decide +kernel)) (di_seq (de_rev (db_var 2))) (blkOk_by (N := n_is_order) (sc := defScope s_is_order) (own := [("doll", 4)]) (by decide +kernel)) (fun _ _ _ _ _ => dg_name (i := 4) nd rfl (Or.inl rfl)) (fun _ _ _ _ _ => dts_nil) (fun _ _ _ _ _ => de_index (pe_bmT PySem.F.slot_tuple_index PySem.F.type_tuple_index (mt_indexT hr.u65) (db_var 1) (pa_cons (db_var 4) pa_nil)))) <|
    dss_one (ds_if (dt_ne hr.units (db_var 3) (db_of (dc_sorted hr.units (by rfl) t.m_sorted (dab_cons (db_var 3) (dab_nil))))) (dss_one (ds_ret (de_bl))) (dss_nil)))) <|
    dss_one (ds_ret (de_bl))
theorem w_is_order (t : Top K mg) : Fn P w K mg base "is_order" 2 f_is_order := (v_is_order t).fn t.d_is_order
theorem v_wait_by (t : Top K mg) : FnV P w K mg base "wait_by" s_wait_by ["order", "prices", "chances"] 1 f_wait_by := fnv_mk (k := 0) (N := n_wait_by) (ps := ["order", "prices", "chances"]) (B := b_wait_by) sc_wait_by <| fun f cdv A outer s H E hr => by
    have nd := sc_wait_by.nd
    exact dss_cons (ds_set2 (ps_asg2 (de_int) (pg_name (i := 3) nd rfl (Or.inl rfl)) (pg_name (i := 4) nd rfl (Or.inl rfl)))) <|
    dss_cons (ds_for PassesOwn.never rfl (di_seq (de_var 0)) (dg_name (i := 5) nd rfl (Or.inl rfl)) (dss_cons (ds_aug (i := 3) nd rfl (Or.inl rfl) (de_ixS (db_var 1) (db_of (de_sub (db_var 5) (db_of (de_int)))) (fun _ _ => rfl))) <|
    dss_one (ds_aug (i := 4) nd rfl (Or.inl rfl) (de_mul (db_of (de_ixS (db_var 2) (db_of (de_sub (db_var 5) (db_of (de_int)))) (fun _ _ => rfl))) (db_var 3))))) <|
    dss_one (ds_ret (de_var 4))
theorem w_wait_by (t : Top K mg) : Fn P w K mg base "wait_by" 1 f_wait_by := (v_wait_by t).fn t.d_wait_by
theorem v_wait_of (t : Top K mg) : FnV P w K mg base "wait_of" s_wait_of ["standing", "prices", "chances", "order"] 3 f_wait_of := fnv_mk (k := 2) (N := n_wait_of) (ps := ["standing", "prices", "chances", "order"]) (B := b_wait_of) sc_wait_of <| fun f cdv A outer s H E hr => by
    have nd := sc_wait_of.nd
    exact dss_cons (ds_if (dt_not (dt_val (de_fn (w_is_order t) hr (by omega) (by rfl) (da_cons (de_var 0) (da_cons (de_var 3) (da_nil)))))) (dss_one (ds_stuck)) (dss_nil)) <|
    dss_one (ds_ret (de_fn (w_wait_by t) hr (by omega) (by rfl) (da_cons (de_var 3) (da_cons (de_var 1) (da_cons (de_var 2) (da_nil))))))
theorem w_wait_of (t : Top K mg) : Fn P w K mg base "wait_of" 3 f_wait_of := (v_wait_of t).fn t.d_wait_of
theorem v_is_less (t : Top K mg) : FnV P w K mg base "is_less" s_is_less ["one", "other"] 1 f_is_less := fnv_mk (k := 0) (N := n_is_less) (ps := ["one", "other"]) (B := b_is_less) sc_is_less <| fun f cdv A outer s H E hr => by
    have nd := sc_is_less.nd
    exact dss_one (ds_ret (de_lt hr.units (db_of (de_mul (db_of (de_ixS (db_var 0) (db_of (de_int)) (fun _ _ => rfl))) (db_of (de_ixS (db_var 1) (db_of (de_int)) (fun _ _ => rfl))))) (db_of (de_mul (db_of (de_ixS (db_var 1) (db_of (de_int)) (fun _ _ => rfl))) (db_of (de_ixS (db_var 0) (db_of (de_int)) (fun _ _ => rfl)))))))
theorem w_is_less (t : Top K mg) : Fn P w K mg base "is_less" 1 f_is_less := (v_is_less t).fn t.d_is_less
theorem v_worth (t : Top K mg) : FnV P w K mg base "worth" s_worth ["lot", "prices", "chances"] 1 f_worth := fnv_mk (k := 0) (N := n_worth) (ps := ["lot", "prices", "chances"]) (B := b_worth) sc_worth <| fun f cdv A outer s H E hr => by
    have nd := sc_worth.nd
    exact dss_one (ds_ret (de_tup (da_cons (dc_sum rfl (by rfl) t.m_sum (dab_cons (db_of (de_ofN (dn_lc (own := [("doll", 3)]) rfl nd (di_seq (de_var 0)) (blkOk_by (N := n_worth) (sc := defScope s_worth) (own := [("doll", 3)]) (by decide +kernel)) (fun _ _ _ _ _ => dg_name (i := 3) nd rfl (Or.inl rfl)) (fun _ _ _ _ _ => dts_nil) (fun _ _ _ _ _ => de_ixS (db_var 2) (db_of (de_sub (db_var 3) (db_of (de_int)))) (fun _ _ => rfl))))) (dab_nil))) (da_cons (dc_sum rfl (by rfl) t.m_sum (dab_cons (db_of (de_ofN (dn_lc (own := [("doll", 3)]) rfl nd (di_seq (de_var 0)) (blkOk_by (N := n_worth) (sc := defScope s_worth) (own := [("doll", 3)]) (by decide +kernel)) (fun _ _ _ _ _ => dg_name (i := 3) nd rfl (Or.inl rfl)) (fun _ _ _ _ _ => dts_nil) (fun _ _ _ _ _ => de_ixS (db_var 1) (db_of (de_sub (db_var 3) (db_of (de_int)))) (fun _ _ => rfl))))) (dab_nil))) (da_nil)))))
theorem w_worth (t : Top K mg) : Fn P w K mg base "worth" 1 f_worth := (v_worth t).fn t.d_worth
theorem v_lots_of (t : Top K mg) : FnV P w K mg base "lots_of" s_lots_of ["some", "prices", "chances"] 2 f_lots_of := fnv_mk (k := 1) (N := n_lots_of) (ps := ["some", "prices", "chances"]) (B := b_lots_of) sc_lots_of <| fun f cdv A outer s H E hr => by
    have nd := sc_lots_of.nd
    exact dss_cons (ds_set (i := 3) nd rfl (Or.inl rfl) (de_tup (da_nil))) <|
    dss_cons (ds_while 5000 PassesOwn.never (dt_ne hr.units (db_var 0) (db_of (de_tup (da_nil)))) (dss_cons (ds_set (i := 4) nd rfl (Or.inl rfl) (de_slice (db_var 0) (do_none) (do_some (db_of (de_int))))) <|
    dss_cons (ds_for PassesOwn.never rfl (di_range2 (by rfl) t.m_range (dab_cons (db_of (de_int)) (dab_cons (db_of (de_add (db_of (dc_len (by rfl) t.m_len (dab_cons (db_var 0) (dab_nil)))) (db_of (de_int)))) (dab_nil)))) (dg_name (i := 5) nd rfl (Or.inl rfl)) (dss_one (ds_if (dt_not (dt_val (de_fn (w_is_less t) hr (by omega) (by rfl) (da_cons (de_fn (w_worth t) hr (by omega) (by rfl) (da_cons (de_slice (db_var 0) (do_none) (do_some (db_var 5))) (da_cons (de_var 1) (da_cons (de_var 2) (da_nil))))) (da_cons (de_fn (w_worth t) hr (by omega) (by rfl) (da_cons (de_var 4) (da_cons (de_var 1) (da_cons (de_var 2) (da_nil))))) (da_nil)))))) (dss_one (ds_set (i := 4) nd rfl (Or.inl rfl) (de_slice (db_var 0) (do_none) (do_some (db_var 5))))) (dss_nil)))) <|
    dss_cons (ds_set (i := 3) nd rfl (Or.inl rfl) (de_add (db_var 3) (db_of (de_tup (da_cons (de_var 4) (da_nil)))))) <|
    dss_one (ds_set (i := 0) nd rfl (Or.inl rfl) (de_slice (db_var 0) (do_some (db_of (dc_len (by rfl) t.m_len (dab_cons (db_var 4) (dab_nil))))) (do_none))))) <|
    dss_one (ds_ret (de_var 3))
theorem w_lots_of (t : Top K mg) : Fn P w K mg base "lots_of" 2 f_lots_of := (v_lots_of t).fn t.d_lots_of
theorem v_coin_paper (t : Top K mg) : FnV P w K mg base "coin_paper" s_coin_paper ["standing", "prices", "chances"] 3 f_coin_paper := fnv_mk (k := 2) (N := n_coin_paper) (ps := ["standing", "prices", "chances"]) (B := b_coin_paper) sc_coin_paper <| fun f cdv A outer s H E hr => by
    have nd := sc_coin_paper.nd
    exact dss_one (ds_ret (dc_tuple (by rfl) t.m_tuple (dab_cons (db_of (de_ofN (dn_lc (own := [("stack", 3)]) rfl nd (di_seq (de_var 0)) (blkOk_by (N := n_coin_paper) (sc := defScope s_coin_paper) (own := [("stack", 3)]) (by decide +kernel)) (fun _ _ _ _ _ => dg_name (i := 3) nd rfl (Or.inl rfl)) (fun _ _ _ _ _ => dts_nil) (fun _ _ _ _ _ => de_fn (w_lots_of t) hr (by omega) (by rfl) (da_cons (de_rev (db_var 3)) (da_cons (de_var 1) (da_cons (de_var 2) (da_nil)))))))) (dab_nil))))
theorem w_coin_paper (t : Top K mg) : Fn P w K mg base "coin_paper" 3 f_coin_paper := (v_coin_paper t).fn t.d_coin_paper
theorem v_order_by (t : Top K mg) : FnV P w K mg base "order_by" s_order_by ["paper", "prices", "chances"] 2 f_order_by := fnv_mk (k := 1) (N := n_order_by) (ps := ["paper", "prices", "chances"]) (B := b_order_by) sc_order_by <| fun f cdv A outer s H E hr => by
    have nd := sc_order_by.nd
    exact dss_cons (ds_set (i := 3) nd rfl (Or.inl rfl) (de_ofN (dn_lst (da_nil)))) <|
    dss_cons (ds_for PassesOwn.never rfl (di_seq (de_var 0)) (dg_name (i := 4) nd rfl (Or.inl rfl)) (dss_one (ds_for PassesOwn.never rfl (di_seq (de_var 4)) (dg_name (i := 5) nd rfl (Or.inl rfl)) (dss_cons (ds_set (i := 6) nd rfl (Or.inr rfl) (de_fn (w_worth t) hr (by omega) (by rfl) (da_cons (de_var 5) (da_cons (de_var 1) (da_cons (de_var 2) (da_nil)))))) <|
    dss_cons (ds_set (i := 7) nd rfl (Or.inl rfl) (dc_len (by rfl) t.m_len (dab_cons (db_of (de_ofN (dn_lc (own := [("one", 9)]) rfl nd (di_seq (de_var 3)) (blkOk_by (N := n_order_by) (sc := defScope s_order_by) (own := [("one", 9)]) (by decide +kernel)) (fun _ _ _ _ _ => dg_name (i := 9) nd rfl (Or.inl rfl)) (fun _ _ _ _ _ => dts_one (dt_not (dt_val (de_fn (w_is_less t) hr (by omega) (by rfl) (da_cons (de_fn (w_worth t) hr (by omega) (by rfl) (da_cons (de_var 9) (da_cons (de_var 1) (da_cons (de_var 2) (da_nil))))) (da_cons (de_var 6) (da_nil))))))) (fun _ _ _ _ _ => de_var 9)))) (dab_nil)))) <|
    dss_one (ds_set (i := 3) nd rfl (Or.inl rfl) (de_add (db_of (de_add (db_of (de_slice (db_var 3) (do_none) (do_some (db_var 7)))) (db_of (de_ofN (dn_lst (da_cons (de_var 5) (da_nil))))))) (db_of (de_slice (db_var 3) (do_some (db_var 7)) (do_none))))))))) <|
    dss_one (ds_ret (dc_tuple (by rfl) t.m_tuple (dab_cons (db_of (de_ofN (dn_lc2 (own := [("lot", 5), ("doll", 8)]) (is1 := [8]) rfl nd (di_seq (de_var 3)) (blkOk_by (N := n_order_by) (sc := defScope s_order_by) (own := [("lot", 5), ("doll", 8)]) (by decide +kernel)) (fun _ _ _ _ _ => dg_name (i := 5) nd rfl (Or.inl rfl)) (fun _ _ _ _ _ => di_seq (de_var 5)) (fun _ _ _ _ _ => dg_name (i := 8) nd rfl (Or.inl rfl)) (fun _ _ _ _ _ => dts_nil) (fun _ _ _ _ _ => de_var 8)))) (dab_nil))))
theorem w_order_by (t : Top K mg) : Fn P w K mg base "order_by" 2 f_order_by := (v_order_by t).fn t.d_order_by
theorem v_least_wait (t : Top K mg) : FnV P w K mg base "least_wait" s_least_wait ["standing", "prices", "chances"] 4 f_least_wait := fnv_mk (k := 3) (N := n_least_wait) (ps := ["standing", "prices", "chances"]) (B := b_least_wait) sc_least_wait <| fun f cdv A outer s H E hr => by
    have nd := sc_least_wait.nd
    exact dss_one (ds_ret (de_fn (w_wait_by t) hr (by omega) (by rfl) (da_cons (de_fn (w_order_by t) hr (by omega) (by rfl) (da_cons (de_fn (w_coin_paper t) hr (by omega) (by rfl) (da_cons (de_var 0) (da_cons (de_var 1) (da_cons (de_var 2) (da_nil))))) (da_cons (de_var 1) (da_cons (de_var 2) (da_nil))))) (da_cons (de_var 1) (da_cons (de_var 2) (da_nil))))))
theorem w_least_wait (t : Top K mg) : Fn P w K mg base "least_wait" 4 f_least_wait := (v_least_wait t).fn t.d_least_wait
theorem v_finds_in (t : Top K mg) : FnV P w K mg base "finds_in" s_finds_in ["standing", "prices", "chances"] 5 f_finds_in := fnv_mk (k := 4) (N := n_finds_in) (ps := ["standing", "prices", "chances"]) (B := b_finds_in) sc_finds_in <| fun f cdv A outer s H E hr => by
    have nd := sc_finds_in.nd
    exact dss_one (ds_ret (de_fn (w_fraction t) hr (by omega) (by rfl) (da_cons (de_fn (w_least_wait t) hr (by omega) (by rfl) (da_cons (de_var 0) (da_cons (de_var 1) (da_cons (de_var 2) (da_nil))))) (da_cons (dc_sum rfl (by rfl) t.m_sum (dab_cons (db_var 2) (dab_nil))) (da_nil)))))
theorem w_finds_in (t : Top K mg) : Fn P w K mg base "finds_in" 5 f_finds_in := (v_finds_in t).fn t.d_finds_in
theorem v_best_order (t : Top K mg) : FnV P w K mg base "best_order" s_best_order ["standing", "prices", "chances"] 5 f_best_order := fnv_mk (k := 4) (N := n_best_order) (ps := ["standing", "prices", "chances"]) (B := b_best_order) sc_best_order <| fun f cdv A outer s H E hr => by
    have nd := sc_best_order.nd
    exact dss_cons (ds_set (i := 3) nd rfl (Or.inl rfl) (de_fn (w_least_wait t) hr (by omega) (by rfl) (da_cons (de_var 0) (da_cons (de_var 1) (da_cons (de_var 2) (da_nil)))))) <|
    dss_cons (ds_setLc (own := [("stack", 10)]) (i := 4) rfl nd rfl rfl (sw_true rfl rfl rfl (by decide +kernel)) (di_seq (de_var 0)) (blkOk_by (N := n_best_order) (sc := defScope s_best_order) (own := [("stack", 10)]) (by decide +kernel)) (fun _ _ _ _ _ => dg_name (i := 10) nd rfl (Or.inl rfl)) (fun _ _ _ _ _ => dts_nil) (fun _ _ _ _ _ => de_rev (db_var 10))) <|
    dss_cons (ds_set (i := 5) nd rfl (Or.inl rfl) (de_tup (da_nil))) <|
    dss_cons (ds_while 5000 PassesOwn.never (dt_lt hr.units (db_of (dc_len (by rfl) t.m_len (dab_cons (db_var 5) (dab_nil)))) (db_of (dc_len (by rfl) t.m_len (dab_cons (db_of (de_fn (w_dolls t) hr (by omega) (by rfl) (da_cons (de_var 0) (da_nil)))) (dab_nil))))) (dss_cons (ds_for PassesOwn.never rfl (di_seq (dc_sorted hr.units (by rfl) t.m_sorted (dab_cons (db_of (de_ofN (dn_lc (own := [("stack", 10)]) rfl nd (di_seq (de_var 4)) (blkOk_by (N := n_best_order) (sc := defScope s_best_order) (own := [("stack", 10)]) (by decide +kernel)) (fun _ _ _ _ _ => dg_name (i := 10) nd rfl (Or.inl rfl)) (fun _ _ _ _ _ => dts_one (dt_ne hr.units (db_var 10) (db_of (de_tup (da_nil))))) (fun _ _ _ _ _ => de_ixS (db_var 10) (db_of (de_int)) (fun _ _ => rfl))))) (dab_nil)))) (dg_name (i := 6) nd rfl (Or.inr rfl)) (dss_cons (ds_setLc (own := [("stack", 10)]) (i := 7) rfl nd rfl rfl (sw_true rfl rfl rfl (by decide +kernel)) (di_seq (de_var 4)) (blkOk_by (N := n_best_order) (sc := defScope s_best_order) (own := [("stack", 10)]) (by decide +kernel)) (fun _ _ _ _ _ => dg_name (i := 10) nd rfl (Or.inl rfl)) (fun _ _ _ _ _ => dts_nil) (fun _ _ _ _ _ => de_ifExp (dt_eq hr.units (db_of (de_slice (db_var 10) (do_none) (do_some (db_of (de_int))))) (db_of (de_tup (da_cons (de_var 6) (da_nil))))) (de_slice (db_var 10) (do_some (db_of (de_int))) (do_none)) (de_var 10))) <|
    dss_cons (ds_setLc (own := [("stack", 10)]) (i := 8) rfl nd rfl rfl (sw_true rfl rfl rfl (by decide +kernel)) (di_seq (de_var 7)) (blkOk_by (N := n_best_order) (sc := defScope s_best_order) (own := [("stack", 10)]) (by decide +kernel)) (fun _ _ _ _ _ => dg_name (i := 10) nd rfl (Or.inl rfl)) (fun _ _ _ _ _ => dts_nil) (fun _ _ _ _ _ => de_fn (w_lots_of t) hr (by omega) (by rfl) (da_cons (de_var 10) (da_cons (de_var 1) (da_cons (de_var 2) (da_nil)))))) <|
    dss_cons (ds_set (i := 9) nd rfl (Or.inl rfl) (de_add (db_of (de_add (db_var 5) (db_of (de_tup (da_cons (de_var 6) (da_nil)))))) (db_of (de_fn (w_order_by t) hr (by omega) (by rfl) (da_cons (de_var 8) (da_cons (de_var 1) (da_cons (de_var 2) (da_nil)))))))) <|
    dss_one (ds_if (dt_eq hr.units (db_of (de_fn (w_wait_by t) hr (by omega) (by rfl) (da_cons (de_var 9) (da_cons (de_var 1) (da_cons (de_var 2) (da_nil)))))) (db_var 3)) (dss_one (ds_break)) (dss_nil)))) <|
    dss_cons (ds_set (i := 5) nd rfl (Or.inl rfl) (de_add (db_var 5) (db_of (de_tup (da_cons (de_var 6) (da_nil)))))) <|
    dss_one (ds_set (i := 4) nd rfl (Or.inl rfl) (de_var 7)))) <|
    dss_one (ds_ret (de_var 5))
theorem w_best_order (t : Top K mg) : Fn P w K mg base "best_order" 5 f_best_order := (v_best_order t).fn t.d_best_order
theorem v_are_good (t : Top K mg) : FnV P w K mg base "are_good" s_are_good ["lots", "prices", "chances"] 2 f_are_good := fnv_mk (k := 1) (N := n_are_good) (ps := ["lots", "prices", "chances"]) (B := b_are_good) sc_are_good <| fun f cdv A outer s H E hr => by
    have nd := sc_are_good.nd
    exact dss_cons (ds_for PassesOwn.never rfl (di_seq (de_var 0)) (dg_name (i := 3) nd rfl (Or.inr rfl)) (dss_cons (ds_set (i := 4) nd rfl (Or.inr rfl) (de_fn (w_worth t) hr (by omega) (by rfl) (da_cons (de_var 3) (da_cons (de_var 1) (da_cons (de_var 2) (da_nil)))))) <|
    dss_one (ds_if (dt_val (dc_any rfl (by rfl) t.m_any (dab_cons (db_of (de_ofN (dn_lc (own := [("size", 6)]) rfl nd (di_range2 (by rfl) t.m_range (dab_cons (db_of (de_int)) (dab_cons (db_of (dc_len (by rfl) t.m_len (dab_cons (db_var 3) (dab_nil)))) (dab_nil)))) (blkOk_by (N := n_are_good) (sc := defScope s_are_good) (own := [("size", 6)]) (by decide +kernel)) (fun _ _ _ _ _ => dg_name (i := 6) nd rfl (Or.inl rfl)) (fun _ _ _ _ _ => dts_nil) (fun _ _ _ _ _ => de_fn (w_is_less t) hr (by omega) (by rfl) (da_cons (de_var 4) (da_cons (de_fn (w_worth t) hr (by omega) (by rfl) (da_cons (de_slice (db_var 3) (do_none) (do_some (db_var 6))) (da_cons (de_var 1) (da_cons (de_var 2) (da_nil))))) (da_nil))))))) (dab_nil)))) (dss_one (ds_ret (de_bl))) (dss_nil)))) <|
    dss_cons (ds_setLc (own := [("lot", 3)]) (i := 5) rfl nd rfl rfl (sw_true rfl rfl rfl (by decide +kernel)) (di_seq (de_var 0)) (blkOk_by (N := n_are_good) (sc := defScope s_are_good) (own := [("lot", 3)]) (by decide +kernel)) (fun _ _ _ _ _ => dg_name (i := 3) nd rfl (Or.inl rfl)) (fun _ _ _ _ _ => dts_nil) (fun _ _ _ _ _ => de_fn (w_worth t) hr (by omega) (by rfl) (da_cons (de_var 3) (da_cons (de_var 1) (da_cons (de_var 2) (da_nil)))))) <|
    dss_one (ds_ret (de_not (dc_any rfl (by rfl) t.m_any (dab_cons (db_of (de_ofN (dn_lc (own := [("one", 7), ("other", 8)]) rfl nd (di_zip (by rfl) t.m_zip (da_cons (de_var 5) (da_cons (de_slice (db_var 5) (do_some (db_of (de_int))) (do_none)) (da_nil)))) (blkOk_by (N := n_are_good) (sc := defScope s_are_good) (own := [("one", 7), ("other", 8)]) (by decide +kernel)) (fun _ _ _ _ _ => dg_tup rfl (dgs_cons (dg_name (i := 7) nd rfl (Or.inl rfl)) (dgs_cons (dg_name (i := 8) nd rfl (Or.inl rfl)) (dgs_nil)))) (fun _ _ _ _ _ => dts_nil) (fun _ _ _ _ _ => de_fn (w_is_less t) hr (by omega) (by rfl) (da_cons (de_var 7) (da_cons (de_var 8) (da_nil))))))) (dab_nil)))))
theorem w_are_good (t : Top K mg) : Fn P w K mg base "are_good" 2 f_are_good := (v_are_good t).fn t.d_are_good
theorem v_are_lots (t : Top K mg) : FnV P w K mg base "are_lots" s_are_lots ["stack", "thing"] 2 f_are_lots := fnv_mk (k := 1) (N := n_are_lots) (ps := ["stack", "thing"]) (B := b_are_lots) sc_are_lots <| fun f cdv A outer s H E hr => by
    have nd := sc_are_lots.nd
    exact dss_cons (ds_if (dt_w (dw_or (dt_not (dt_val (de_isA kit_tuple bb_tuple (by decide) (by decide) (by rfl) t.m_isinstance (by rfl) t.m_tuple (db_var 1)))) (dw_or1 (dt_not (dt_val (dc_all rfl (by rfl) t.m_all (dab_cons (db_of (de_ofN (dn_lc (own := [("lot", 3)]) rfl nd (di_seq (de_var 1)) (blkOk_by (N := n_are_lots) (sc := defScope s_are_lots) (own := [("lot", 3)]) (by decide +kernel)) (fun _ _ _ _ _ => dg_name (i := 3) nd rfl (Or.inl rfl)) (fun _ _ _ _ _ => dts_nil) (fun _ _ _ _ _ => de_and (de_isA kit_tuple bb_tuple (by decide) (by decide) (by rfl) t.m_isinstance (by rfl) t.m_tuple (db_var 3)) (de_one (de_ne hr.units (db_var 3) (db_of (de_tup (da_nil))))))))) (dab_nil)))))))) (dss_one (ds_ret (de_bl))) (dss_nil)) <|
    dss_cons (ds_setLc2 (own := [("lot", 3), ("doll", 4)]) (is1 := [4]) (i := 2) rfl nd rfl rfl (sw_true rfl rfl rfl (by decide +kernel)) (di_seq (de_var 1)) (blkOk_by (N := n_are_lots) (sc := defScope s_are_lots) (own := [("lot", 3), ("doll", 4)]) (by decide +kernel)) (fun _ _ _ _ _ => dg_name (i := 3) nd rfl (Or.inl rfl)) (fun _ _ _ _ _ => di_seq (de_var 3)) (fun _ _ _ _ _ => dg_name (i := 4) nd rfl (Or.inl rfl)) (fun _ _ _ _ _ => dts_nil) (fun _ _ _ _ _ => de_var 4)) <|
    dss_one (ds_ret (de_and (dc_all rfl (by rfl) t.m_all (dab_cons (db_of (de_ofN (dn_lc (own := [("doll", 4)]) rfl nd (di_seq (de_var 2)) (blkOk_by (N := n_are_lots) (sc := defScope s_are_lots) (own := [("doll", 4)]) (by decide +kernel)) (fun _ _ _ _ _ => dg_name (i := 4) nd rfl (Or.inl rfl)) (fun _ _ _ _ _ => dts_nil) (fun _ _ _ _ _ => de_fn (w_is_within t) hr (by omega) (by rfl) (da_cons (de_var 4) (da_cons (de_int) (da_cons (de_int) (da_nil)))))))) (dab_nil))) (de_one (de_eq hr.units (db_var 2) (db_of (de_ofN (dcn_list (by rfl) t.m_list (dab_cons (db_of (de_rev (db_var 0))) (dab_nil)))))))))
theorem w_are_lots (t : Top K mg) : Fn P w K mg base "are_lots" 2 f_are_lots := (v_are_lots t).fn t.d_are_lots
theorem v_coin_shown (t : Top K mg) : FnV P w K mg base "coin_shown" s_coin_shown ["standing", "prices", "chances", "thing"] 3 f_coin_shown := fnv_mk (k := 2) (N := n_coin_shown) (ps := ["standing", "prices", "chances", "thing"]) (B := b_coin_shown) sc_coin_shown <| fun f cdv A outer s H E hr => by
    have nd := sc_coin_shown.nd
    exact dss_cons (ds_if (dt_w (dw_or (dt_not (dt_val (de_isA kit_tuple bb_tuple (by decide) (by decide) (by rfl) t.m_isinstance (by rfl) t.m_tuple (db_var 3)))) (dw_or1 (dt_ne hr.units (db_of (dc_len (by rfl) t.m_len (dab_cons (db_var 3) (dab_nil)))) (db_of (dc_len (by rfl) t.m_len (dab_cons (db_var 0) (dab_nil)))))))) (dss_one (ds_ret (de_non))) (dss_nil)) <|
    dss_cons (ds_for PassesOwn.never rfl (di_zip (by rfl) t.m_zip (da_cons (de_var 0) (da_cons (de_var 3) (da_nil)))) (dg_tup rfl (dgs_cons (dg_name (i := 4) nd rfl (Or.inl rfl)) (dgs_cons (dg_name (i := 5) nd rfl (Or.inl rfl)) (dgs_nil)))) (dss_one (ds_if (dt_w (dw_or (dt_not (dt_val (de_fn (w_are_lots t) hr (by omega) (by rfl) (da_cons (de_var 4) (da_cons (de_var 5) (da_nil)))))) (dw_or1 (dt_not (dt_val (de_fn (w_are_good t) hr (by omega) (by rfl) (da_cons (de_var 5) (da_cons (de_var 1) (da_cons (de_var 2) (da_nil)))))))))) (dss_one (ds_ret (de_non))) (dss_nil)))) <|
    dss_one (ds_ret (de_fn (w_wait_by t) hr (by omega) (by rfl) (da_cons (de_fn (w_order_by t) hr (by omega) (by rfl) (da_cons (de_var 3) (da_cons (de_var 1) (da_cons (de_var 2) (da_nil))))) (da_cons (de_var 1) (da_cons (de_var 2) (da_nil))))))
theorem w_coin_shown (t : Top K mg) : Fn P w K mg base "coin_shown" 3 f_coin_shown := (v_coin_shown t).fn t.d_coin_shown
theorem v_reached (t : Top K mg) : FnV P w K mg base "reached" s_reached ["standing", "spots", "dearest", "prices"] 4 f_reached := fnv_mk (k := 3) (N := n_reached) (ps := ["standing", "spots", "dearest", "prices"]) (B := b_reached) sc_reached <| fun f cdv A outer s H E hr => by
    have nd := sc_reached.nd
    exact dss_cons (ds_ownK (i := 4) nd rfl (Or.inl rfl) (dk_disp hr.u9 (de_var 0) (de_bl))) <|
    dss_cons (ds_own (i := 5) nd rfl (Or.inl rfl) (dn_lst (da_cons (de_var 0) (da_nil)))) <|
    dss_cons (ds_while 5000 PassesOwn.never (dt_ne hr.units (db_var 5) (db_of (de_ofN (dn_lst (da_nil))))) (dss_cons (ds_pop (ps_set (i := 6) nd rfl (Or.inl rfl) (pe_bm0 PySem.F.plainAttrs_list PySem.F.slot_list_pop PySem.F.type_list_pop mt_pop (pv 5)))) <|
    dss_one (ds_for PassesOwn.never rfl (di_seq (de_fn (w_moves t) hr (by omega) (by rfl) (da_cons (de_var 6) (da_cons (de_var 1) (da_nil))))) (dg_name (i := 7) nd rfl (Or.inl rfl)) (dss_cons (ds_set (i := 8) nd rfl (Or.inl rfl) (de_fn (w_moved t) hr (by omega) (by rfl) (da_cons (de_var 6) (da_cons (de_var 7) (da_nil))))) <|
    dss_one (ds_if (dt_w (dw_and (dt_le (db_of (de_fn (w_price_of t) hr (by omega) (by rfl) (da_cons (de_var 7) (da_cons (de_var 3) (da_nil))))) (db_var 2)) (dw_and1 (dt_ninD hr.u65 (db_var 8) (db_var 4))))) (dss_cons (ds_setD (ps_asg (de_bl) (pg_sub (pv 4) (db_var 8) (set_dct hr.u9)))) <|
    dss_one (ds_app (ps_expr (pe_bm PySem.F.plainAttrs_list PySem.F.slot_list_append PySem.F.type_list_append mt_append (pv 5) (pa_cons (de_var 8) pa_nil))))) (dss_nil)))))) <|
    dss_one (ds_ret (de_var 4))
theorem w_reached (t : Top K mg) : Fn P w K mg base "reached" 4 f_reached := (v_reached t).fn t.d_reached
theorem v_any_price (t : Top K mg) : FnV P w K mg base "any_price" s_any_price ["standing"] 2 f_any_price := fnv_mk (k := 1) (N := n_any_price) (ps := ["standing"]) (B := b_any_price) sc_any_price <| fun f cdv A outer s H E hr => by
    have nd := sc_any_price.nd
    exact dss_one (ds_ret (de_rep (db_of (de_tup (da_cons (de_int) (da_nil)))) (db_of (dc_len (by rfl) t.m_len (dab_cons (db_of (de_fn (w_dolls t) hr (by omega) (by rfl) (da_cons (de_var 0) (da_nil)))) (dab_nil))))))
theorem w_any_price (t : Top K mg) : Fn P w K mg base "any_price" 2 f_any_price := (v_any_price t).fn t.d_any_price
theorem v_comes_to (t : Top K mg) : FnV P w K mg base "comes_to" s_comes_to ["standing", "spots"] 5 f_comes_to := fnv_mk (k := 4) (N := n_comes_to) (ps := ["standing", "spots"]) (B := b_comes_to) sc_comes_to <| fun f cdv A outer s H E hr => by
    have nd := sc_comes_to.nd
    exact dss_one (ds_ret (dc_sortedK rfl hr.units (by rfl) t.m_sorted (dab_cons (db_of (de_fn (w_reached t) hr (by omega) (by rfl) (da_cons (de_var 0) (da_cons (de_var 1) (da_cons (de_int) (da_cons (de_fn (w_any_price t) hr (by omega) (by rfl) (da_cons (de_var 0) (da_nil))) (da_nil))))))) (dab_nil))))
theorem w_comes_to (t : Top K mg) : Fn P w K mg base "comes_to" 5 f_comes_to := (v_comes_to t).fn t.d_comes_to
theorem v_fewest_spots (t : Top K mg) : FnV P w K mg base "fewest_spots" s_fewest_spots ["standing", "other"] 6 f_fewest_spots := fnv_mk (k := 5) (N := n_fewest_spots) (ps := ["standing", "other"]) (B := b_fewest_spots) sc_fewest_spots <| fun f cdv A outer s H E hr => by
    have nd := sc_fewest_spots.nd
    exact dss_cons (ds_set (i := 2) nd rfl (Or.inl rfl) (dc_max2 rfl (by rfl) t.m_max (dab_cons (db_of (dc_len (by rfl) t.m_len (dab_cons (db_var 0) (dab_nil)))) (dab_cons (db_of (dc_len (by rfl) t.m_len (dab_cons (db_var 1) (dab_nil)))) (dab_nil))))) <|
    dss_cons (ds_while 5000 PassesOwn.never (dt_nin hr.u65 (db_var 1) (db_of (de_fn (w_comes_to t) hr (by omega) (by rfl) (da_cons (de_var 0) (da_cons (de_var 2) (da_nil)))))) (dss_one (ds_aug (i := 2) nd rfl (Or.inl rfl) (de_int)))) <|
    dss_one (ds_ret (de_var 2))
theorem w_fewest_spots (t : Top K mg) : Fn P w K mg base "fewest_spots" 6 f_fewest_spots := (v_fewest_spots t).fn t.d_fewest_spots
theorem v_fence (t : Top K mg) : FnV P w K mg base "fence" s_fence ["standing", "other", "spots"] 6 f_fence := fnv_mk (k := 5) (N := n_fence) (ps := ["standing", "other", "spots"]) (B := b_fence) sc_fence <| fun f cdv A outer s H E hr => by
    have nd := sc_fence.nd
    exact dss_cons (ds_if (dt_gt (db_of (dc_len (by rfl) t.m_len (dab_cons (db_var 0) (dab_nil)))) (db_var 2)) (dss_one (ds_ret (de_non))) (dss_nil)) <|
    dss_cons (ds_set (i := 3) nd rfl (Or.inl rfl) (de_fn (w_comes_to t) hr (by omega) (by rfl) (da_cons (de_var 0) (da_cons (de_var 2) (da_nil))))) <|
    dss_one (ds_ret (de_ifExp (dt_nin hr.u65 (db_var 1) (db_var 3)) (dc_tuple (by rfl) t.m_tuple (dab_cons (db_var 3) (dab_nil))) (de_non)))
theorem w_fence (t : Top K mg) : Fn P w K mg base "fence" 6 f_fence := (v_fence t).fn t.d_fence
theorem v_is_fence (t : Top K mg) : FnV P w K mg base "is_fence" s_is_fence ["standing", "other", "spots", "thing"] 4 f_is_fence := fnv_mk (k := 3) (N := n_is_fence) (ps := ["standing", "other", "spots", "thing"]) (B := b_is_fence) sc_is_fence <| fun f cdv A outer s H E hr => by
    have nd := sc_is_fence.nd
    exact dss_cons (ds_if (dt_w (dw_or (dt_not (dt_val (de_isA kit_tuple bb_tuple (by decide) (by decide) (by rfl) t.m_isinstance (by rfl) t.m_tuple (db_var 3)))) (dw_or (dt_not (dt_val (dc_all rfl (by rfl) t.m_all (dab_cons (db_of (de_ofN (dn_lc (own := [("part", 4)]) rfl nd (di_seq (de_var 3)) (blkOk_by (N := n_is_fence) (sc := defScope s_is_fence) (own := [("part", 4)]) (by decide +kernel)) (fun _ _ _ _ _ => dg_name (i := 4) nd rfl (Or.inl rfl)) (fun _ _ _ _ _ => dts_nil) (fun _ _ _ _ _ => de_fn (w_is_standing t) hr (by omega) (by rfl) (da_cons (de_var 4) (da_nil)))))) (dab_nil))))) (dw_or1 (dt_not (dt_val (de_fn (w_rise t) hr (by omega) (by rfl) (da_cons (de_var 3) (da_nil))))))))) (dss_one (ds_ret (de_bl))) (dss_nil)) <|
    dss_cons (ds_if (dt_w (dw_or (dt_nin hr.u65 (db_var 0) (db_var 3)) (dw_or (dt_in hr.u65 (db_var 1) (db_var 3)) (dw_or1 (dt_not (dt_val (dc_all rfl (by rfl) t.m_all (dab_cons (db_of (de_ofN (dn_lc (own := [("part", 4)]) rfl nd (di_seq (de_var 3)) (blkOk_by (N := n_is_fence) (sc := defScope s_is_fence) (own := [("part", 4)]) (by decide +kernel)) (fun _ _ _ _ _ => dg_name (i := 4) nd rfl (Or.inl rfl)) (fun _ _ _ _ _ => dts_nil) (fun _ _ _ _ _ => de_le (db_of (dc_len (by rfl) t.m_len (dab_cons (db_var 4) (dab_nil)))) (db_var 2))))) (dab_nil))))))))) (dss_one (ds_ret (de_bl))) (dss_nil)) <|
    dss_cons (ds_if (dt_val (dc_any rfl (by rfl) t.m_any (dab_cons (db_of (de_ofN (dn_lc (own := [("part", 4)]) rfl nd (di_seq (de_var 3)) (blkOk_by (N := n_is_fence) (sc := defScope s_is_fence) (own := [("part", 4)]) (by decide +kernel)) (fun _ _ _ _ _ => dg_name (i := 4) nd rfl (Or.inl rfl)) (fun _ _ _ _ _ => dts_nil) (fun _ _ _ _ _ => de_ne hr.units (db_of (dc_len (by rfl) t.m_len (dab_cons (db_of (de_fn (w_dolls t) hr (by omega) (by rfl) (da_cons (de_var 4) (da_nil)))) (dab_nil)))) (db_of (dc_len (by rfl) t.m_len (dab_cons (db_of (de_fn (w_dolls t) hr (by omega) (by rfl) (da_cons (de_var 0) (da_nil)))) (dab_nil)))))))) (dab_nil)))) (dss_one (ds_ret (de_bl))) (dss_nil)) <|
    dss_one (ds_ret (dc_all rfl (by rfl) t.m_all (dab_cons (db_of (de_ofN (dn_lc2 (own := [("part", 4), ("move", 5)]) (is1 := [5]) rfl nd (di_seq (de_var 3)) (blkOk_by (N := n_is_fence) (sc := defScope s_is_fence) (own := [("part", 4), ("move", 5)]) (by decide +kernel)) (fun _ _ _ _ _ => dg_name (i := 4) nd rfl (Or.inl rfl)) (fun _ _ _ _ _ => di_seq (de_fn (w_moves t) hr (by omega) (by rfl) (da_cons (de_var 4) (da_cons (de_var 2) (da_nil))))) (fun _ _ _ _ _ => dg_name (i := 5) nd rfl (Or.inl rfl)) (fun _ _ _ _ _ => dts_nil) (fun _ _ _ _ _ => de_in hr.u65 (db_of (de_fn (w_moved t) hr (by omega) (by rfl) (da_cons (de_var 4) (da_cons (de_var 5) (da_nil))))) (db_var 3))))) (dab_nil))))
theorem w_is_fence (t : Top K mg) : Fn P w K mg base "is_fence" 4 f_is_fence := (v_is_fence t).fn t.d_is_fence
theorem v_least_dearest (t : Top K mg) : FnV P w K mg base "least_dearest" s_least_dearest ["standing", "other", "spots", "prices"] 5 f_least_dearest := fnv_mk (k := 4) (N := n_least_dearest) (ps := ["standing", "other", "spots", "prices"]) (B := b_least_dearest) sc_least_dearest <| fun f cdv A outer s H E hr => by
    have nd := sc_least_dearest.nd
    exact dss_cons (ds_for PassesOwn.never rfl (di_seq (de_add (db_of (de_ofN (dn_lst (da_cons (de_int) (da_nil))))) (db_of (dc_sorted hr.units (by rfl) t.m_sorted (dab_cons (db_var 3) (dab_nil)))))) (dg_name (i := 4) nd rfl (Or.inl rfl)) (dss_one (ds_if (dt_inD hr.u65 (db_var 1) (db_of (de_fn (w_reached t) hr (by omega) (by rfl) (da_cons (de_var 0) (da_cons (de_var 2) (da_cons (de_var 4) (da_cons (de_var 3) (da_nil)))))))) (dss_one (ds_ret (de_var 4))) (dss_nil)))) <|
    dss_one (ds_ret (de_non))
theorem w_least_dearest (t : Top K mg) : Fn P w K mg base "least_dearest" 5 f_least_dearest := (v_least_dearest t).fn t.d_least_dearest
theorem v__law_draw (t : Top K mg) : FnV P w K mg base "_law_draw" s__law_draw ["tape", "much_of"] 1 f__law_drawv1 := fnv_mk (k := 0) (N := n__law_draw) (ps := ["tape", "much_of"]) (B := b__law_drawv1) sc__law_draw <| fun f cdv A outer s H E hr => by
    have nd := sc__law_draw.nd
    exact dss_cons (ds_set (i := 2) nd rfl (Or.inl rfl) (de_int)) <|
    dss_cons (ds_if (dt_lt hr.units (db_of (de_tapeIx 0)) (db_var 1)) (dss_cons (ds_set (i := 3) nd rfl (Or.inl rfl) (de_int)) <|
    dss_cons (ds_if (dt_gt (db_of (dc_len (by rfl) t.m_len (dab_cons (db_of (de_tapeIx 0)) (dab_nil)))) (db_of (de_int))) (dss_one (ds_set (i := 3) nd rfl (Or.inl rfl) (de_ixS (db_of (de_tapeIx 0)) (db_of (de_mod (db_of (de_tapeIx 0)) (db_of (dc_len (by rfl) t.m_len (dab_cons (db_of (de_tapeIx 0)) (dab_nil)))))) (fun _ _ => rfl)))) (dss_nil)) <|
    dss_cons (ds_if (dt_w (dw_or (dt_ge (db_of (de_tapeIx 0)) (db_of (dc_len (by rfl) t.m_len (dab_cons (db_of (de_tapeIx 0)) (dab_nil))))) (dw_or1 (dt_lt hr.units (db_var 3) (db_of (de_pow (db_of (de_int)) (db_of (de_int)))))))) (dss_cons (ds_set (i := 3) nd rfl (Or.inl rfl) (de_mod (db_of (de_add (db_var 3) (db_of (de_mul (db_of (de_int)) (db_of (de_tapeIx 0)))))) (db_var 2))) <|
    dss_cons (ds_set (i := 3) nd rfl (Or.inl rfl) (de_mod (db_of (de_add (db_of (de_add (db_of (de_mul (db_var 3) (db_var 3))) (db_of (de_mul (db_of (de_int)) (db_var 3))))) (db_of (de_int)))) (db_var 2))) <|
    dss_one (ds_set (i := 3) nd rfl (Or.inl rfl) (de_mod (db_of (de_add (db_of (de_mul (db_var 3) (db_var 3))) (db_of (de_int)))) (db_var 2)))) (dss_nil)) <|
    dss_cons (ds_tape (ps_asg (de_add (db_of (de_tapeIx 0)) (db_of (de_int))) (pg_sub (pv 0) pe_int set_list))) <|
    dss_one (ds_tape (ps_asg (de_var 3) (pg_sub (pv 0) pe_int set_list)))) (dss_nil)) <|
    dss_cons (ds_set (i := 4) nd rfl (Or.inl rfl) (de_mod (db_of (de_tapeIx 0)) (db_var 1))) <|
    dss_cons (ds_tape (ps_asg (de_fdiv (db_of (de_tapeIx 0)) (db_var 1)) (pg_sub (pv 0) pe_int set_list))) <|
    dss_one (ds_ret (de_var 4))
theorem w__law_draw (t : Top K mg) : Fn P w K mg base "_law_draw" 1 f__law_drawv1 := (v__law_draw t).fn t.d__law_draw
theorem w__law_like (t : Top K mg) : ∀ n, Fn P w K mg base "_law_like" (0 + n) (f__law_like n)
  | 0 => fn_0 t.d__law_like
  | n + 1 => by
    have ih : Fn P w K mg base "_law_like" (0 + n) (f__law_like n) := w__law_like t n
    refine fn_mk (k := 0 + n) (N := n__law_like) (ps := ["one", "two"]) (B := b__law_like (f__law_like n)) t.d__law_like sc__law_like ?_
    intro f cdv A outer s H E hr
    have nd := sc__law_like.nd
    exact dss_cons (ds_if (dt_val (de_isA2 kit_list kit_tuple bb_list (by decide) (by decide) bb_tuple (by decide) (by decide) (by rfl) t.m_isinstance (by rfl) t.m_list (by rfl) t.m_tuple (db_var 0))) (dss_cons (ds_if (dt_w (dw_or (dt_ne hr.units (db_of (de_isA kit_list bb_list (by decide) (by decide) (by rfl) t.m_isinstance (by rfl) t.m_list (db_var 0))) (db_of (de_isA kit_list bb_list (by decide) (by decide) (by rfl) t.m_isinstance (by rfl) t.m_list (db_var 1)))) (dw_or1 (dt_ne hr.units (db_of (de_isA kit_tuple bb_tuple (by decide) (by decide) (by rfl) t.m_isinstance (by rfl) t.m_tuple (db_var 0))) (db_of (de_isA kit_tuple bb_tuple (by decide) (by decide) (by rfl) t.m_isinstance (by rfl) t.m_tuple (db_var 1))))))) (dss_one (ds_ret (de_bl))) (dss_nil)) <|
    dss_cons (ds_if (dt_ne hr.units (db_of (dc_len (by rfl) t.m_len (dab_cons (db_var 0) (dab_nil)))) (db_of (dc_len (by rfl) t.m_len (dab_cons (db_var 1) (dab_nil))))) (dss_one (ds_ret (de_bl))) (dss_nil)) <|
    dss_one (ds_ret (de_eq hr.units (db_of (de_ofN (dn_lc (own := [("k", 2)]) rfl nd (di_range1 (by rfl) t.m_range (dab_cons (db_of (dc_len (by rfl) t.m_len (dab_cons (db_var 0) (dab_nil)))) (dab_nil))) (blkOk_by (N := n__law_like) (sc := defScope s__law_like) (own := [("k", 2)]) (by decide +kernel)) (fun _ _ _ _ _ => dg_name (i := 2) nd rfl (Or.inl rfl)) (fun _ _ _ _ _ => dts_one (dt_not (dt_val (de_fn (ih) hr (by omega) (by rfl) (da_cons (de_ixS (db_var 0) (db_var 2) (fun _ _ => rfl)) (da_cons (de_ixS (db_var 1) (db_var 2) (fun _ _ => rfl)) (da_nil))))))) (fun _ _ _ _ _ => de_var 2)))) (db_of (de_ofN (dn_lst (da_nil))))))) (dss_nil)) <|
    dss_cons (ds_if (dt_val (de_isA2 kit_list kit_tuple bb_list (by decide) (by decide) bb_tuple (by decide) (by decide) (by rfl) t.m_isinstance (by rfl) t.m_list (by rfl) t.m_tuple (db_var 1))) (dss_one (ds_ret (de_bl))) (dss_nil)) <|
    dss_one (ds_ret (de_and (de_eq hr.units (db_of (de_isA kit_bool bb_bool (by decide) (by decide) (by rfl) t.m_isinstance (by rfl) t.m_bool (db_var 0))) (db_of (de_isA kit_bool bb_bool (by decide) (by decide) (by rfl) t.m_isinstance (by rfl) t.m_bool (db_var 1)))) (de_one (de_eq hr.units (db_var 0) (db_var 1)))))
theorem v__law_rows_right (t : Top K mg) : FnV P w K mg base "_law_rows_right" s__law_rows_right ["by"] 7 f__law_rows_right := fnv_mk (k := 6) (N := n__law_rows_right) (ps := ["by"]) (B := b__law_rows_right) sc__law_rows_right <| fun f cdv A outer s H E hr => by
    have nd := sc__law_rows_right.nd
    exact dss_cons (ds_par3 (i := 1) (j := 2) (l := 3) rfl nd rfl rfl rfl (by decide) (by decide) (by decide) rfl rfl rfl (da_cons (de_tup (da_cons (de_tup (da_cons (de_int) (da_cons (de_int) (da_nil)))) (da_cons (de_tup (da_cons (de_int) (da_nil))) (da_nil)))) (da_cons (de_tup (da_cons (de_tup (da_cons (de_int) (da_cons (de_int) (da_nil)))) (da_cons (de_tup (da_cons (de_int) (da_nil))) (da_nil)))) (da_cons (de_tup (da_cons (de_int) (da_cons (de_var 0) (da_cons (de_mul (db_of (de_int)) (db_var 0)) (da_nil))))) (da_nil)))) rfl) <|
    dss_cons (ds_set (i := 4) nd rfl (Or.inl rfl) (de_ofN (dn_lst (da_cons (de_tup (da_cons (de_str) (da_cons (de_int) (da_nil)))) (da_cons (de_tup (da_cons (de_str) (da_cons (de_int) (da_cons (de_int) (da_nil))))) (da_nil)))))) <|
    dss_cons (ds_if (dt_ne hr.units (db_of (de_kw (ks := ["standing", "spots"]) (is := [0, 1]) (v_moves t) t.d_moves hr (by omega) (by rfl) (by intro _ _ _ _ _ _ ws us hl hp; match ws, hl with | [_, _], _ => (cases hp; rfl)) (dkw_cons (de_var 1) (dkw_cons (de_int) (dkw_nil))))) (db_of (de_ofN (dn_lst (da_cons (de_tup (da_cons (de_str) (da_cons (de_int) (da_cons (de_int) (da_nil))))) (da_cons (de_tup (da_cons (de_str) (da_cons (de_int) (da_nil)))) (da_nil))))))) (dss_one (ds_ret (de_bl))) (dss_nil)) <|
    dss_cons (ds_if (dt_ne hr.units (db_of (de_kw (ks := ["spots", "standing"]) (is := [1, 0]) (v_moves t) t.d_moves hr (by omega) (by rfl) (by intro _ _ _ _ _ _ ws us hl hp; match ws, hl with | [_, _], _ => (cases hp; rfl)) (dkw_cons (de_int) (dkw_cons (de_var 1) (dkw_nil))))) (db_of (de_ofN (dn_lst (da_cons (de_tup (da_cons (de_str) (da_cons (de_int) (da_cons (de_int) (da_nil))))) (da_nil)))))) (dss_one (ds_ret (de_bl))) (dss_nil)) <|
    dss_cons (ds_if (dt_ne hr.units (db_of (de_kw (ks := ["standing", "other", "spots", "prices"]) (is := [0, 1, 2, 3]) (v_least_row t) t.d_least_row hr (by omega) (by rfl) (by intro _ _ _ _ _ _ ws us hl hp; match ws, hl with | [_, _, _, _], _ => (cases hp; rfl)) (dkw_cons (de_var 1) (dkw_cons (de_var 2) (dkw_cons (de_int) (dkw_cons (de_var 3) (dkw_nil))))))) (db_var 4)) (dss_one (ds_ret (de_bl))) (dss_nil)) <|
    dss_cons (ds_if (dt_ne hr.units (db_of (de_kw (ks := ["row", "prices"]) (is := [0, 1]) (v_toil_of t) t.d_toil_of hr (by omega) (by rfl) (by intro _ _ _ _ _ _ ws us hl hp; match ws, hl with | [_, _], _ => (cases hp; rfl)) (dkw_cons (de_var 4) (dkw_cons (de_var 3) (dkw_nil))))) (db_of (de_mul (db_of (de_int)) (db_var 0)))) (dss_one (ds_ret (de_bl))) (dss_nil)) <|
    dss_cons (ds_if (dt_w (dw_or (dt_isnt (db_of (de_fn (w_least_row t) hr (by omega) (by rfl) (da_cons (de_var 1) (da_cons (de_var 2) (da_cons (de_int) (da_cons (de_var 3) (da_nil))))))) (db_of (de_non))) (dw_or1 (dt_ne hr.units (db_of (de_kw (ks := ["standing", "other"]) (is := [0, 1]) (v_fewest_spots t) t.d_fewest_spots hr (by omega) (by rfl) (by intro _ _ _ _ _ _ ws us hl hp; match ws, hl with | [_, _], _ => (cases hp; rfl)) (dkw_cons (de_var 1) (dkw_cons (de_var 2) (dkw_nil))))) (db_of (de_int)))))) (dss_one (ds_ret (de_bl))) (dss_nil)) <|
    dss_cons (ds_if (dt_not (dt_val (de_fn (w_is_fence t) hr (by omega) (by rfl) (da_cons (de_var 1) (da_cons (de_var 2) (da_cons (de_int) (da_cons (de_kw (ks := ["spots", "other", "standing"]) (is := [2, 1, 0]) (v_fence t) t.d_fence hr (by omega) (by rfl) (by intro _ _ _ _ _ _ ws us hl hp; match ws, hl with | [_, _, _], _ => (cases hp; rfl)) (dkw_cons (de_int) (dkw_cons (de_var 2) (dkw_cons (de_var 1) (dkw_nil))))) (da_nil)))))))) (dss_one (ds_ret (de_bl))) (dss_nil)) <|
    dss_cons (ds_if (dt_not (dt_val (de_kw (ks := ["thing", "spots", "other", "standing"]) (is := [3, 2, 1, 0]) (v_is_fence t) t.d_is_fence hr (by omega) (by rfl) (by intro _ _ _ _ _ _ ws us hl hp; match ws, hl with | [_, _, _, _], _ => (cases hp; rfl)) (dkw_cons (de_tup (da_cons (de_tup (da_cons (de_tup (da_cons (de_int) (da_cons (de_int) (da_nil)))) (da_cons (de_tup (da_cons (de_int) (da_nil))) (da_nil)))) (da_cons (de_tup (da_cons (de_tup (da_cons (de_int) (da_cons (de_int) (da_cons (de_int) (da_nil))))) (da_nil))) (da_nil)))) (dkw_cons (de_int) (dkw_cons (de_var 2) (dkw_cons (de_var 1) (dkw_nil)))))))) (dss_one (ds_ret (de_bl))) (dss_nil)) <|
    dss_cons (ds_if (dt_ne hr.units (db_of (de_kw (ks := ["standing", "other", "spots", "prices"]) (is := [0, 1, 2, 3]) (v_least_dearest t) t.d_least_dearest hr (by omega) (by rfl) (by intro _ _ _ _ _ _ ws us hl hp; match ws, hl with | [_, _, _, _], _ => (cases hp; rfl)) (dkw_cons (de_var 1) (dkw_cons (de_var 2) (dkw_cons (de_int) (dkw_cons (de_var 3) (dkw_nil))))))) (db_of (de_mul (db_of (de_int)) (db_var 0)))) (dss_one (ds_ret (de_bl))) (dss_nil)) <|
    dss_cons (ds_if (dt_ne hr.units (db_of (de_kw (ks := ["other", "standing"]) (is := [1, 0]) (v_unlike t) t.d_unlike hr (by omega) (by rfl) (by intro _ _ _ _ _ _ ws us hl hp; match ws, hl with | [_, _], _ => (cases hp; rfl)) (dkw_cons (de_var 1) (dkw_cons (de_var 2) (dkw_nil))))) (db_of (de_ofN (dn_lst (da_cons (de_int) (da_cons (de_int) (da_nil))))))) (dss_one (ds_ret (de_bl))) (dss_nil)) <|
    dss_cons (ds_if (dt_ne hr.units (db_of (de_kw (ks := ["standing", "other", "prices"]) (is := [0, 1, 2]) (v_floor t) t.d_floor hr (by omega) (by rfl) (by intro _ _ _ _ _ _ ws us hl hp; match ws, hl with | [_, _, _], _ => (cases hp; rfl)) (dkw_cons (de_var 1) (dkw_cons (de_var 2) (dkw_cons (de_var 3) (dkw_nil)))))) (db_of (de_mul (db_of (de_int)) (db_var 0)))) (dss_one (ds_ret (de_bl))) (dss_nil)) <|
    dss_cons (ds_if (dt_ne hr.units (db_of (de_kw (ks := ["standing", "spots"]) (is := [0, 1]) (v_comes_to t) t.d_comes_to hr (by omega) (by rfl) (by intro _ _ _ _ _ _ ws us hl hp; match ws, hl with | [_, _], _ => (cases hp; rfl)) (dkw_cons (de_var 2) (dkw_cons (de_int) (dkw_nil))))) (db_of (de_ofN (dn_lst (da_cons (de_tup (da_cons (de_tup (da_cons (de_int) (da_cons (de_int) (da_nil)))) (da_cons (de_tup (da_cons (de_int) (da_nil))) (da_nil)))) (da_nil)))))) (dss_one (ds_ret (de_bl))) (dss_nil)) <|
    dss_cons (ds_set (i := 5) nd rfl (Or.inl rfl) (de_kw (ks := ["prices", "spots", "other"]) (is := [2, 1, 0]) (v_toil_paper t) t.d_toil_paper hr (by omega) (by rfl) (by intro _ _ _ _ _ _ ws us hl hp; match ws, hl with | [_, _, _], _ => (cases hp; rfl)) (dkw_cons (de_var 3) (dkw_cons (de_int) (dkw_cons (de_var 1) (dkw_nil)))))) <|
    dss_cons (ds_if (dt_ne hr.units (db_var 5) (db_of (de_tup (da_cons (de_tup (da_cons (de_tup (da_cons (de_tup (da_cons (de_int) (da_nil))) (da_cons (de_tup (da_cons (de_int) (da_cons (de_int) (da_nil)))) (da_nil)))) (da_cons (de_non) (da_nil)))) (da_cons (de_tup (da_cons (de_tup (da_cons (de_tup (da_cons (de_int) (da_cons (de_int) (da_nil)))) (da_cons (de_tup (da_cons (de_int) (da_nil))) (da_nil)))) (da_cons (de_int) (da_nil)))) (da_cons (de_tup (da_cons (de_tup (da_cons (de_tup (da_cons (de_int) (da_cons (de_int) (da_cons (de_int) (da_nil))))) (da_nil))) (da_cons (de_mul (db_of (de_int)) (db_var 0)) (da_nil)))) (da_cons (de_tup (da_cons (de_tup (da_cons (de_tup (da_cons (de_int) (da_cons (de_int) (da_nil)))) (da_cons (de_tup (da_cons (de_int) (da_nil))) (da_nil)))) (da_cons (de_non) (da_nil)))) (da_nil)))))))) (dss_one (ds_ret (de_bl))) (dss_nil)) <|
    dss_cons (ds_if (dt_not (dt_val (de_kw (ks := ["thing", "prices", "spots", "other"]) (is := [3, 2, 1, 0]) (v_is_toil_paper t) t.d_is_toil_paper hr (by omega) (by rfl) (by intro _ _ _ _ _ _ ws us hl hp; match ws, hl with | [_, _, _, _], _ => (cases hp; rfl)) (dkw_cons (de_var 5) (dkw_cons (de_var 3) (dkw_cons (de_int) (dkw_cons (de_var 1) (dkw_nil)))))))) (dss_one (ds_ret (de_bl))) (dss_nil)) <|
    dss_cons (ds_if (dt_ne hr.units (db_of (de_kw (ks := ["many"]) (is := [0]) (v_standings t) t.d_standings hr (by omega) (by rfl) (by intro _ _ _ _ _ _ ws us hl hp; match ws, hl with | [_], _ => (cases hp; rfl)) (dkw_cons (de_int) (dkw_nil)))) (db_of (de_ofN (dn_lst (da_cons (de_tup (da_cons (de_tup (da_cons (de_int) (da_nil))) (da_cons (de_tup (da_cons (de_int) (da_nil))) (da_nil)))) (da_cons (de_tup (da_cons (de_tup (da_cons (de_int) (da_cons (de_int) (da_nil)))) (da_nil))) (da_nil))))))) (dss_one (ds_ret (de_bl))) (dss_nil)) <|
    dss_cons (ds_set (i := 6) nd rfl (Or.inl rfl) (de_tup (da_cons (de_kw (ks := ["move", "spots", "standing"]) (is := [2, 1, 0]) (v_behind t) t.d_behind hr (by omega) (by rfl) (by intro _ _ _ _ _ _ ws us hl hp; match ws, hl with | [_, _, _], _ => (cases hp; rfl)) (dkw_cons (de_tup (da_cons (de_str) (da_cons (de_int) (da_nil)))) (dkw_cons (de_int) (dkw_cons (de_var 1) (dkw_nil))))) (da_cons (de_kw (ks := ["row", "spots", "standing"]) (is := [2, 1, 0]) (v_led t) t.d_led hr (by omega) (by rfl) (by intro _ _ _ _ _ _ ws us hl hp; match ws, hl with | [_, _, _], _ => (cases hp; rfl)) (dkw_cons (de_var 4) (dkw_cons (de_int) (dkw_cons (de_var 1) (dkw_nil))))) (da_nil))))) <|
    dss_one (ds_ret (de_and (de_eq hr.units (db_var 6) (db_of (de_tup (da_cons (de_tup (da_cons (de_tup (da_cons (de_int) (da_nil))) (da_cons (de_tup (da_cons (de_int) (da_nil))) (da_cons (de_tup (da_cons (de_int) (da_nil))) (da_nil))))) (da_cons (de_var 2) (da_nil)))))) (de_and (de_eq hr.units (db_of (de_kw (ks := ["standing", "doll"]) (is := [0, 1]) (v_within t) t.d_within hr (by omega) (by rfl) (by intro _ _ _ _ _ _ ws us hl hp; match ws, hl with | [_, _], _ => (cases hp; rfl)) (dkw_cons (de_var 1) (dkw_cons (de_int) (dkw_nil))))) (db_of (de_tup (da_cons (de_int) (da_nil))))) (de_one (de_kw (ks := ["thing"]) (is := [0]) (v_is_standing t) t.d_is_standing hr (by omega) (by rfl) (by intro _ _ _ _ _ _ ws us hl hp; match ws, hl with | [_], _ => (cases hp; rfl)) (dkw_cons (de_var 1) (dkw_nil)))))))
theorem w__law_rows_right (t : Top K mg) : Fn P w K mg base "_law_rows_right" 7 f__law_rows_right := (v__law_rows_right t).fn t.d__law_rows_right
theorem v__law_one_right (t : Top K mg) : FnV P w K mg base "_law_one_right" s__law_one_right ["by"] 21 f__law_one_right := fnv_mk (k := 20) (N := n__law_one_right) (ps := ["by"]) (B := b__law_one_right) sc__law_one_right <| fun f cdv A outer s H E hr => by
    have nd := sc__law_one_right.nd
    exact dss_cons (ds_set (i := 1) nd rfl (Or.inl rfl) (de_tup (da_cons (de_tup (da_cons (de_int) (da_nil))) (da_nil)))) <|
    dss_cons (ds_set (i := 2) nd rfl (Or.inl rfl) (de_ofN (dn_lst (da_cons (de_fn (w_moves t) hr (by omega) (by rfl) (da_cons (de_var 1) (da_cons (de_int) (da_nil)))) (da_cons (de_fn (w_least_row t) hr (by omega) (by rfl) (da_cons (de_var 1) (da_cons (de_var 1) (da_cons (de_int) (da_cons (de_tup (da_cons (de_var 0) (da_nil))) (da_nil)))))) (da_cons (de_fn (w_toil_paper t) hr (by omega) (by rfl) (da_cons (de_var 1) (da_cons (de_int) (da_cons (de_tup (da_cons (de_var 0) (da_nil))) (da_nil))))) (da_cons (de_fn (w_fence t) hr (by omega) (by rfl) (da_cons (de_var 1) (da_cons (de_var 1) (da_cons (de_int) (da_nil))))) (da_nil)))))))) <|
    dss_cons (ds_if (dt_w (dw_or (dt_not (dt_val (de_fn (w__law_like t 20) hr (by omega) (by rfl) (da_cons (de_var 2) (da_cons (de_ofN (dn_lst (da_cons (de_ofN (dn_lst (da_nil))) (da_cons (de_ofN (dn_lst (da_nil))) (da_cons (de_tup (da_cons (de_tup (da_cons (de_var 1) (da_cons (de_int) (da_nil)))) (da_nil))) (da_cons (de_non) (da_nil))))))) (da_nil)))))) (dw_or1 (dt_ne hr.units (db_of (de_fn (w_toil_of t) hr (by omega) (by rfl) (da_cons (de_ofN (dn_lst (da_nil))) (da_cons (de_tup (da_cons (de_var 0) (da_nil))) (da_nil))))) (db_of (de_int)))))) (dss_one (ds_ret (de_bl))) (dss_nil)) <|
    dss_cons (ds_set (i := 2) nd rfl (Or.inl rfl) (de_ofN (dn_lst (da_cons (de_fn (w_fewest_spots t) hr (by omega) (by rfl) (da_cons (de_var 1) (da_cons (de_var 1) (da_nil)))) (da_cons (de_fn (w_least_dearest t) hr (by omega) (by rfl) (da_cons (de_var 1) (da_cons (de_var 1) (da_cons (de_int) (da_cons (de_tup (da_cons (de_var 0) (da_nil))) (da_nil)))))) (da_cons (de_fn (w_best_order t) hr (by omega) (by rfl) (da_cons (de_var 1) (da_cons (de_tup (da_cons (de_var 0) (da_nil))) (da_cons (de_tup (da_cons (de_var 0) (da_nil))) (da_nil))))) (da_nil))))))) <|
    dss_cons (ds_if (dt_w (dw_or (dt_ne hr.units (db_var 2) (db_of (de_ofN (dn_lst (da_cons (de_int) (da_cons (de_int) (da_cons (de_tup (da_cons (de_int) (da_nil))) (da_nil)))))))) (dw_or1 (dt_ne hr.units (db_of (de_fn (w_finds_in t) hr (by omega) (by rfl) (da_cons (de_var 1) (da_cons (de_tup (da_cons (de_var 0) (da_nil))) (da_cons (de_tup (da_cons (de_int) (da_nil))) (da_nil)))))) (db_of (de_tup (da_cons (de_var 0) (da_cons (de_int) (da_nil))))))))) (dss_one (ds_ret (de_bl))) (dss_nil)) <|
    dss_cons (ds_if (dt_w (dw_or (dt_val (de_fn (w_is_toil_paper t) hr (by omega) (by rfl) (da_cons (de_var 1) (da_cons (de_int) (da_cons (de_tup (da_cons (de_var 0) (da_nil))) (da_cons (de_tup (da_cons (de_tup (da_cons (de_var 1) (da_cons (de_non) (da_nil)))) (da_nil))) (da_nil))))))) (dw_or1 (dt_not (dt_val (de_fn (w_is_toil_paper t) hr (by omega) (by rfl) (da_cons (de_var 1) (da_cons (de_int) (da_cons (de_tup (da_cons (de_var 0) (da_nil))) (da_cons (de_tup (da_cons (de_tup (da_cons (de_var 1) (da_cons (de_neg (db_var 0)) (da_nil)))) (da_nil))) (da_nil))))))))))) (dss_one (ds_ret (de_bl))) (dss_nil)) <|
    dss_one (ds_ret (de_and (de_is (db_of (de_fn (w_fence t) hr (by omega) (by rfl) (da_cons (de_tup (da_cons (de_tup (da_cons (de_int) (da_nil))) (da_cons (de_tup (da_cons (de_int) (da_nil))) (da_nil)))) (da_cons (de_tup (da_cons (de_tup (da_cons (de_int) (da_cons (de_int) (da_nil)))) (da_nil))) (da_cons (de_int) (da_nil)))))) (db_of (de_non))) (de_one (de_isnt (db_of (de_fn (w_fence t) hr (by omega) (by rfl) (da_cons (de_tup (da_cons (de_tup (da_cons (de_int) (da_cons (de_int) (da_nil)))) (da_nil))) (da_cons (de_tup (da_cons (de_tup (da_cons (de_int) (da_nil))) (da_cons (de_tup (da_cons (de_int) (da_nil))) (da_nil)))) (da_cons (de_int) (da_nil)))))) (db_of (de_non))))))
theorem w__law_one_right (t : Top K mg) : Fn P w K mg base "_law_one_right" 21 f__law_one_right := (v__law_one_right t).fn t.d__law_one_right
theorem v__law_coins_right (t : Top K mg) : FnV P w K mg base "_law_coins_right" s__law_coins_right ["by"] 6 f__law_coins_right := fnv_mk (k := 5) (N := n__law_coins_right) (ps := ["by"]) (B := b__law_coins_right) sc__law_coins_right <| fun f cdv A outer s H E hr => by
    have nd := sc__law_coins_right.nd
    exact dss_cons (ds_unp (de_tup (da_cons (de_tup (da_cons (de_tup (da_cons (de_int) (da_cons (de_int) (da_nil)))) (da_cons (de_tup (da_cons (de_int) (da_nil))) (da_nil)))) (da_cons (de_tup (da_cons (de_int) (da_cons (de_int) (da_cons (de_int) (da_nil))))) (da_cons (de_tup (da_cons (de_int) (da_cons (de_int) (da_cons (de_int) (da_nil))))) (da_nil))))) (dg_tup rfl (dgs_cons (dg_name (i := 1) nd rfl (Or.inl rfl)) (dgs_cons (dg_name (i := 2) nd rfl (Or.inl rfl)) (dgs_cons (dg_name (i := 3) nd rfl (Or.inl rfl)) (dgs_nil)))))) <|
    dss_cons (ds_if (dt_ne hr.units (db_of (de_kw (ks := ["standing", "prices", "chances"]) (is := [0, 1, 2]) (v_best_order t) t.d_best_order hr (by omega) (by rfl) (by intro _ _ _ _ _ _ ws us hl hp; match ws, hl with | [_, _, _], _ => (cases hp; rfl)) (dkw_cons (de_var 1) (dkw_cons (de_var 2) (dkw_cons (de_var 3) (dkw_nil)))))) (db_of (de_tup (da_cons (de_int) (da_cons (de_int) (da_cons (de_int) (da_nil))))))) (dss_one (ds_ret (de_bl))) (dss_nil)) <|
    dss_cons (ds_if (dt_ne hr.units (db_of (de_kw (ks := ["standing", "prices", "chances"]) (is := [0, 1, 2]) (v_least_wait t) t.d_least_wait hr (by omega) (by rfl) (by intro _ _ _ _ _ _ ws us hl hp; match ws, hl with | [_, _, _], _ => (cases hp; rfl)) (dkw_cons (de_var 1) (dkw_cons (de_var 2) (dkw_cons (de_var 3) (dkw_nil)))))) (db_of (de_add (db_of (de_mul (db_of (de_int)) (db_of (de_int)))) (db_of (de_mul (db_of (de_int)) (db_of (de_int))))))) (dss_one (ds_ret (de_bl))) (dss_nil)) <|
    dss_cons (ds_if (dt_ne hr.units (db_of (de_kw (ks := ["standing", "prices", "chances"]) (is := [0, 1, 2]) (v_finds_in t) t.d_finds_in hr (by omega) (by rfl) (by intro _ _ _ _ _ _ ws us hl hp; match ws, hl with | [_, _, _], _ => (cases hp; rfl)) (dkw_cons (de_var 1) (dkw_cons (de_var 2) (dkw_cons (de_var 3) (dkw_nil)))))) (db_of (de_tup (da_cons (de_int) (da_cons (de_int) (da_nil)))))) (dss_one (ds_ret (de_bl))) (dss_nil)) <|
    dss_cons (ds_set (i := 4) nd rfl (Or.inl rfl) (de_tup (da_cons (de_tup (da_cons (de_tup (da_cons (de_int) (da_cons (de_int) (da_nil)))) (da_nil))) (da_cons (de_tup (da_cons (de_tup (da_cons (de_int) (da_nil))) (da_nil))) (da_nil))))) <|
    dss_cons (ds_if (dt_ne hr.units (db_of (de_kw (ks := ["standing", "prices", "chances", "thing"]) (is := [0, 1, 2, 3]) (v_coin_shown t) t.d_coin_shown hr (by omega) (by rfl) (by intro _ _ _ _ _ _ ws us hl hp; match ws, hl with | [_, _, _, _], _ => (cases hp; rfl)) (dkw_cons (de_var 1) (dkw_cons (de_var 2) (dkw_cons (de_var 3) (dkw_cons (de_var 4) (dkw_nil))))))) (db_of (de_int))) (dss_one (ds_ret (de_bl))) (dss_nil)) <|
    dss_cons (ds_if (dt_isnt (db_of (de_fn (w_coin_shown t) hr (by omega) (by rfl) (da_cons (de_var 1) (da_cons (de_var 2) (da_cons (de_var 3) (da_cons (de_tup (da_cons (de_tup (da_cons (de_tup (da_cons (de_int) (da_nil))) (da_cons (de_tup (da_cons (de_int) (da_nil))) (da_nil)))) (da_cons (de_tup (da_cons (de_tup (da_cons (de_int) (da_nil))) (da_nil))) (da_nil)))) (da_nil))))))) (db_of (de_non))) (dss_one (ds_ret (de_bl))) (dss_nil)) <|
    dss_cons (ds_if (dt_ne hr.units (db_of (de_kw (ks := ["standing", "prices", "chances", "order"]) (is := [0, 1, 2, 3]) (v_wait_of t) t.d_wait_of hr (by omega) (by rfl) (by intro _ _ _ _ _ _ ws us hl hp; match ws, hl with | [_, _, _, _], _ => (cases hp; rfl)) (dkw_cons (de_var 1) (dkw_cons (de_var 2) (dkw_cons (de_var 3) (dkw_cons (de_tup (da_cons (de_int) (da_cons (de_int) (da_cons (de_int) (da_nil))))) (dkw_nil))))))) (db_of (de_add (db_of (de_mul (db_of (de_int)) (db_of (de_int)))) (db_of (de_mul (db_of (de_int)) (db_of (de_int))))))) (dss_one (ds_ret (de_bl))) (dss_nil)) <|
    dss_cons (ds_set (i := 5) nd rfl (Or.inl rfl) (de_fn (w_best_order t) hr (by omega) (by rfl) (da_cons (de_tup (da_cons (de_tup (da_cons (de_int) (da_nil))) (da_cons (de_tup (da_cons (de_int) (da_nil))) (da_cons (de_tup (da_cons (de_int) (da_nil))) (da_nil))))) (da_cons (de_tup (da_cons (de_var 0) (da_cons (de_var 0) (da_cons (de_var 0) (da_nil))))) (da_cons (de_tup (da_cons (de_var 0) (da_cons (de_var 0) (da_cons (de_var 0) (da_nil))))) (da_nil)))))) <|
    dss_one (ds_ret (de_and (de_eq hr.units (db_var 5) (db_of (de_tup (da_cons (de_int) (da_cons (de_int) (da_cons (de_int) (da_nil))))))) (de_one (de_eq hr.units (db_of (de_kw (ks := ["standing", "prices", "chances"]) (is := [0, 1, 2]) (v_coin_paper t) t.d_coin_paper hr (by omega) (by rfl) (by intro _ _ _ _ _ _ ws us hl hp; match ws, hl with | [_, _, _], _ => (cases hp; rfl)) (dkw_cons (de_tup (da_cons (de_tup (da_cons (de_int) (da_nil))) (da_nil))) (dkw_cons (de_tup (da_cons (de_var 0) (da_nil))) (dkw_cons (de_tup (da_cons (de_var 0) (da_nil))) (dkw_nil)))))) (db_of (de_tup (da_cons (de_tup (da_cons (de_tup (da_cons (de_int) (da_nil))) (da_nil))) (da_nil))))))))
theorem w__law_coins_right (t : Top K mg) : Fn P w K mg base "_law_coins_right" 6 f__law_coins_right := (v__law_coins_right t).fn t.d__law_coins_right
theorem w_law {f : Addr} {fd : FuncData} (t : Top K mg) (F : Fun K "law" "law" s_law f fd) (law : ∀ ns : List Int, ns.length ≤ 63 → ∃ τ, b_law_k16 (lawE 4) (lawT ns) = some (.rt (.dat (.bool true)) τ)) : FnOk P w K mg base CX0 22 f fd ["script"] (spLaw K) :=
  law_ok (k := 21) (N := n_law) (st := s_law) (B := b_law_k16) F sc_law (by decide) t.m_list rfl (fun cdv A outer s H E => ps_set (i := 1) sc_law.nd rfl (Or.inl rfl) (pe_lst (pa_cons (pe_callTy call_list_of (by rfl) t.m_list bb_list (pa_cons (pv 0) pa_nil)) (pa_cons pe_int (pa_cons pe_int pa_nil)))))
    (fun cdv A outer s H E hr => by
    have nd := sc_law.nd
    exact dss_cons (ds_for PassesOwn.never rfl (di_range1 (by rfl) t.m_range (dab_cons (db_of (de_int)) (dab_nil))) (dg_name (i := 2) nd rfl (Or.inl rfl)) (dss_cons (ds_set (i := 3) nd rfl (Or.inl rfl) (de_add (db_of (de_int)) (db_of (de_fn (w__law_draw t) hr (by omega) (by rfl) (da_cons (de_var 1) (da_cons (de_int) (da_nil))))))) <|
    dss_one (ds_if (dt_w (dw_or (dt_not (dt_val (de_fn (w__law_rows_right t) hr (by omega) (by rfl) (da_cons (de_var 3) (da_nil))))) (dw_or (dt_not (dt_val (de_fn (w__law_coins_right t) hr (by omega) (by rfl) (da_cons (de_var 3) (da_nil))))) (dw_or1 (dt_not (dt_val (de_fn (w__law_one_right t) hr (by omega) (by rfl) (da_cons (de_var 3) (da_nil))))))))) (dss_one (ds_ret (de_bl))) (dss_nil)))) <|
    dss_one (ds_ret (de_bl))) law
theorem all_mk {l : PySem.W.OpenLaw} {h : Heap} {fa : Addr} (X : K.In h) (G : h.Ns mainGlobals mg) (hfa : mg "law" = some (.ref fa))
    {f0 : Addr} {od0 an0 : Option Addr} {sl0 : Array (Option Value)} {oc0 kV0 dc0 pm0 cd0 ct0 : Value}
    (a0 : PySem.W.nsIn K mainGlobals "is_within" = some (some (.ref f0))) (l0 : K.lookup f0 = some ⟨oc0, od0, .func (PySem.W.fnOf "is_within" "is_within" (defArgs s_is_within) (defBody s_is_within) (defScope s_is_within) .none kV0 dc0 pm0 an0 cd0 ct0), sl0⟩) (c0 : PySem.W.codeIn K cd0 "is_within" = true) (k0 : PySem.W.keepIn K (.ref f0) = true)
    {f1 : Addr} {od1 an1 : Option Addr} {sl1 : Array (Option Value)} {oc1 kV1 dc1 pm1 cd1 ct1 : Value}
    (a1 : PySem.W.nsIn K mainGlobals "rise" = some (some (.ref f1))) (l1 : K.lookup f1 = some ⟨oc1, od1, .func (PySem.W.fnOf "rise" "rise" (defArgs s_rise) (defBody s_rise) (defScope s_rise) .none kV1 dc1 pm1 an1 cd1 ct1), sl1⟩) (c1 : PySem.W.codeIn K cd1 "rise" = true) (k1 : PySem.W.keepIn K (.ref f1) = true)
    {f2 : Addr} {od2 an2 : Option Addr} {sl2 : Array (Option Value)} {oc2 kV2 dc2 pm2 cd2 ct2 : Value}
    (a2 : PySem.W.nsIn K mainGlobals "is_stack" = some (some (.ref f2))) (l2 : K.lookup f2 = some ⟨oc2, od2, .func (PySem.W.fnOf "is_stack" "is_stack" (defArgs s_is_stack) (defBody s_is_stack) (defScope s_is_stack) .none kV2 dc2 pm2 an2 cd2 ct2), sl2⟩) (c2 : PySem.W.codeIn K cd2 "is_stack" = true) (k2 : PySem.W.keepIn K (.ref f2) = true)
    {f3 : Addr} {od3 an3 : Option Addr} {sl3 : Array (Option Value)} {oc3 kV3 dc3 pm3 cd3 ct3 : Value}
    (a3 : PySem.W.nsIn K mainGlobals "dolls" = some (some (.ref f3))) (l3 : K.lookup f3 = some ⟨oc3, od3, .func (PySem.W.fnOf "dolls" "dolls" (defArgs s_dolls) (defBody s_dolls) (defScope s_dolls) .none kV3 dc3 pm3 an3 cd3 ct3), sl3⟩) (c3 : PySem.W.codeIn K cd3 "dolls" = true) (k3 : PySem.W.keepIn K (.ref f3) = true)
    {f4 : Addr} {od4 an4 : Option Addr} {sl4 : Array (Option Value)} {oc4 kV4 dc4 pm4 cd4 ct4 : Value}
    (a4 : PySem.W.nsIn K mainGlobals "is_standing" = some (some (.ref f4))) (l4 : K.lookup f4 = some ⟨oc4, od4, .func (PySem.W.fnOf "is_standing" "is_standing" (defArgs s_is_standing) (defBody s_is_standing) (defScope s_is_standing) .none kV4 dc4 pm4 an4 cd4 ct4), sl4⟩) (c4 : PySem.W.codeIn K cd4 "is_standing" = true) (k4 : PySem.W.keepIn K (.ref f4) = true)
    {f5 : Addr} {od5 an5 : Option Addr} {sl5 : Array (Option Value)} {oc5 kV5 dc5 pm5 cd5 ct5 : Value}
    (a5 : PySem.W.nsIn K mainGlobals "standings" = some (some (.ref f5))) (l5 : K.lookup f5 = some ⟨oc5, od5, .func (PySem.W.fnOf "standings" "standings" (defArgs s_standings) (defBody s_standings) (defScope s_standings) .none kV5 dc5 pm5 an5 cd5 ct5), sl5⟩) (c5 : PySem.W.codeIn K cd5 "standings" = true) (k5 : PySem.W.keepIn K (.ref f5) = true)
    {f6 : Addr} {od6 an6 : Option Addr} {sl6 : Array (Option Value)} {oc6 kV6 dc6 pm6 cd6 ct6 : Value}
    (a6 : PySem.W.nsIn K mainGlobals "stack_of" = some (some (.ref f6))) (l6 : K.lookup f6 = some ⟨oc6, od6, .func (PySem.W.fnOf "stack_of" "stack_of" (defArgs s_stack_of) (defBody s_stack_of) (defScope s_stack_of) .none kV6 dc6 pm6 an6 cd6 ct6), sl6⟩) (c6 : PySem.W.codeIn K cd6 "stack_of" = true) (k6 : PySem.W.keepIn K (.ref f6) = true)
    {f7 : Addr} {od7 an7 : Option Addr} {sl7 : Array (Option Value)} {oc7 kV7 dc7 pm7 cd7 ct7 : Value}
    (a7 : PySem.W.nsIn K mainGlobals "within" = some (some (.ref f7))) (l7 : K.lookup f7 = some ⟨oc7, od7, .func (PySem.W.fnOf "within" "within" (defArgs s_within) (defBody s_within) (defScope s_within) .none kV7 dc7 pm7 an7 cd7 ct7), sl7⟩) (c7 : PySem.W.codeIn K cd7 "within" = true) (k7 : PySem.W.keepIn K (.ref f7) = true)
    {f8 : Addr} {od8 an8 : Option Addr} {sl8 : Array (Option Value)} {oc8 kV8 dc8 pm8 cd8 ct8 : Value}
    (a8 : PySem.W.nsIn K mainGlobals "moves" = some (some (.ref f8))) (l8 : K.lookup f8 = some ⟨oc8, od8, .func (PySem.W.fnOf "moves" "moves" (defArgs s_moves) (defBody s_moves) (defScope s_moves) .none kV8 dc8 pm8 an8 cd8 ct8), sl8⟩) (c8 : PySem.W.codeIn K cd8 "moves" = true) (k8 : PySem.W.keepIn K (.ref f8) = true)
    {f9 : Addr} {od9 an9 : Option Addr} {sl9 : Array (Option Value)} {oc9 kV9 dc9 pm9 cd9 ct9 : Value}
    (a9 : PySem.W.nsIn K mainGlobals "moved" = some (some (.ref f9))) (l9 : K.lookup f9 = some ⟨oc9, od9, .func (PySem.W.fnOf "moved" "moved" (defArgs s_moved) (defBody s_moved) (defScope s_moved) .none kV9 dc9 pm9 an9 cd9 ct9), sl9⟩) (c9 : PySem.W.codeIn K cd9 "moved" = true) (k9 : PySem.W.keepIn K (.ref f9) = true)
    {f10 : Addr} {od10 an10 : Option Addr} {sl10 : Array (Option Value)} {oc10 kV10 dc10 pm10 cd10 ct10 : Value}
    (a10 : PySem.W.nsIn K mainGlobals "is_move" = some (some (.ref f10))) (l10 : K.lookup f10 = some ⟨oc10, od10, .func (PySem.W.fnOf "is_move" "is_move" (defArgs s_is_move) (defBody s_is_move) (defScope s_is_move) .none kV10 dc10 pm10 an10 cd10 ct10), sl10⟩) (c10 : PySem.W.codeIn K cd10 "is_move" = true) (k10 : PySem.W.keepIn K (.ref f10) = true)
    {f11 : Addr} {od11 an11 : Option Addr} {sl11 : Array (Option Value)} {oc11 kV11 dc11 pm11 cd11 ct11 : Value}
    (a11 : PySem.W.nsIn K mainGlobals "behind" = some (some (.ref f11))) (l11 : K.lookup f11 = some ⟨oc11, od11, .func (PySem.W.fnOf "behind" "behind" (defArgs s_behind) (defBody s_behind) (defScope s_behind) .none kV11 dc11 pm11 an11 cd11 ct11), sl11⟩) (c11 : PySem.W.codeIn K cd11 "behind" = true) (k11 : PySem.W.keepIn K (.ref f11) = true)
    {f12 : Addr} {od12 an12 : Option Addr} {sl12 : Array (Option Value)} {oc12 kV12 dc12 pm12 cd12 ct12 : Value}
    (a12 : PySem.W.nsIn K mainGlobals "led" = some (some (.ref f12))) (l12 : K.lookup f12 = some ⟨oc12, od12, .func (PySem.W.fnOf "led" "led" (defArgs s_led) (defBody s_led) (defScope s_led) .none kV12 dc12 pm12 an12 cd12 ct12), sl12⟩) (c12 : PySem.W.codeIn K cd12 "led" = true) (k12 : PySem.W.keepIn K (.ref f12) = true)
    {f13 : Addr} {od13 an13 : Option Addr} {sl13 : Array (Option Value)} {oc13 kV13 dc13 pm13 cd13 ct13 : Value}
    (a13 : PySem.W.nsIn K mainGlobals "unlike" = some (some (.ref f13))) (l13 : K.lookup f13 = some ⟨oc13, od13, .func (PySem.W.fnOf "unlike" "unlike" (defArgs s_unlike) (defBody s_unlike) (defScope s_unlike) .none kV13 dc13 pm13 an13 cd13 ct13), sl13⟩) (c13 : PySem.W.codeIn K cd13 "unlike" = true) (k13 : PySem.W.keepIn K (.ref f13) = true)
    {f14 : Addr} {od14 an14 : Option Addr} {sl14 : Array (Option Value)} {oc14 kV14 dc14 pm14 cd14 ct14 : Value}
    (a14 : PySem.W.nsIn K mainGlobals "floor" = some (some (.ref f14))) (l14 : K.lookup f14 = some ⟨oc14, od14, .func (PySem.W.fnOf "floor" "floor" (defArgs s_floor) (defBody s_floor) (defScope s_floor) .none kV14 dc14 pm14 an14 cd14 ct14), sl14⟩) (c14 : PySem.W.codeIn K cd14 "floor" = true) (k14 : PySem.W.keepIn K (.ref f14) = true)
    {f15 : Addr} {od15 an15 : Option Addr} {sl15 : Array (Option Value)} {oc15 kV15 dc15 pm15 cd15 ct15 : Value}
    (a15 : PySem.W.nsIn K mainGlobals "price_of" = some (some (.ref f15))) (l15 : K.lookup f15 = some ⟨oc15, od15, .func (PySem.W.fnOf "price_of" "price_of" (defArgs s_price_of) (defBody s_price_of) (defScope s_price_of) .none kV15 dc15 pm15 an15 cd15 ct15), sl15⟩) (c15 : PySem.W.codeIn K cd15 "price_of" = true) (k15 : PySem.W.keepIn K (.ref f15) = true)
    {f16 : Addr} {od16 an16 : Option Addr} {sl16 : Array (Option Value)} {oc16 kV16 dc16 pm16 cd16 ct16 : Value}
    (a16 : PySem.W.nsIn K mainGlobals "toil_of" = some (some (.ref f16))) (l16 : K.lookup f16 = some ⟨oc16, od16, .func (PySem.W.fnOf "toil_of" "toil_of" (defArgs s_toil_of) (defBody s_toil_of) (defScope s_toil_of) .none kV16 dc16 pm16 an16 cd16 ct16), sl16⟩) (c16 : PySem.W.codeIn K cd16 "toil_of" = true) (k16 : PySem.W.keepIn K (.ref f16) = true)
    {f17 : Addr} {od17 an17 : Option Addr} {sl17 : Array (Option Value)} {oc17 kV17 dc17 pm17 cd17 ct17 : Value}
    (a17 : PySem.W.nsIn K mainGlobals "all_standings" = some (some (.ref f17))) (l17 : K.lookup f17 = some ⟨oc17, od17, .func (PySem.W.fnOf "all_standings" "all_standings" (defArgs s_all_standings) (defBody s_all_standings) (defScope s_all_standings) .none kV17 dc17 pm17 an17 cd17 ct17), sl17⟩) (c17 : PySem.W.codeIn K cd17 "all_standings" = true) (k17 : PySem.W.keepIn K (.ref f17) = true)
    {f18 : Addr} {od18 an18 : Option Addr} {sl18 : Array (Option Value)} {oc18 kV18 dc18 pm18 cd18 ct18 : Value}
    (a18 : PySem.W.nsIn K mainGlobals "far" = some (some (.ref f18))) (l18 : K.lookup f18 = some ⟨oc18, od18, .func (PySem.W.fnOf "far" "far" (defArgs s_far) (defBody s_far) (defScope s_far) .none kV18 dc18 pm18 an18 cd18 ct18), sl18⟩) (c18 : PySem.W.codeIn K cd18 "far" = true) (k18 : PySem.W.keepIn K (.ref f18) = true)
    {f19 : Addr} {od19 an19 : Option Addr} {sl19 : Array (Option Value)} {oc19 kV19 dc19 pm19 cd19 ct19 : Value}
    (a19 : PySem.W.nsIn K mainGlobals "least_row" = some (some (.ref f19))) (l19 : K.lookup f19 = some ⟨oc19, od19, .func (PySem.W.fnOf "least_row" "least_row" (defArgs s_least_row) (defBody s_least_row) (defScope s_least_row) .none kV19 dc19 pm19 an19 cd19 ct19), sl19⟩) (c19 : PySem.W.codeIn K cd19 "least_row" = true) (k19 : PySem.W.keepIn K (.ref f19) = true)
    {f20 : Addr} {od20 an20 : Option Addr} {sl20 : Array (Option Value)} {oc20 kV20 dc20 pm20 cd20 ct20 : Value}
    (a20 : PySem.W.nsIn K mainGlobals "toil_paper" = some (some (.ref f20))) (l20 : K.lookup f20 = some ⟨oc20, od20, .func (PySem.W.fnOf "toil_paper" "toil_paper" (defArgs s_toil_paper) (defBody s_toil_paper) (defScope s_toil_paper) .none kV20 dc20 pm20 an20 cd20 ct20), sl20⟩) (c20 : PySem.W.codeIn K cd20 "toil_paper" = true) (k20 : PySem.W.keepIn K (.ref f20) = true)
    {f21 : Addr} {od21 an21 : Option Addr} {sl21 : Array (Option Value)} {oc21 kV21 dc21 pm21 cd21 ct21 : Value}
    (a21 : PySem.W.nsIn K mainGlobals "is_number" = some (some (.ref f21))) (l21 : K.lookup f21 = some ⟨oc21, od21, .func (PySem.W.fnOf "is_number" "is_number" (defArgs s_is_number) (defBody s_is_number) (defScope s_is_number) .none kV21 dc21 pm21 an21 cd21 ct21), sl21⟩) (c21 : PySem.W.codeIn K cd21 "is_number" = true) (k21 : PySem.W.keepIn K (.ref f21) = true)
    {f22 : Addr} {od22 an22 : Option Addr} {sl22 : Array (Option Value)} {oc22 kV22 dc22 pm22 cd22 ct22 : Value}
    (a22 : PySem.W.nsIn K mainGlobals "is_entry" = some (some (.ref f22))) (l22 : K.lookup f22 = some ⟨oc22, od22, .func (PySem.W.fnOf "is_entry" "is_entry" (defArgs s_is_entry) (defBody s_is_entry) (defScope s_is_entry) .none kV22 dc22 pm22 an22 cd22 ct22), sl22⟩) (c22 : PySem.W.codeIn K cd22 "is_entry" = true) (k22 : PySem.W.keepIn K (.ref f22) = true)
    {f23 : Addr} {od23 an23 : Option Addr} {sl23 : Array (Option Value)} {oc23 kV23 dc23 pm23 cd23 ct23 : Value}
    (a23 : PySem.W.nsIn K mainGlobals "falls" = some (some (.ref f23))) (l23 : K.lookup f23 = some ⟨oc23, od23, .func (PySem.W.fnOf "falls" "falls" (defArgs s_falls) (defBody s_falls) (defScope s_falls) .none kV23 dc23 pm23 an23 cd23 ct23), sl23⟩) (c23 : PySem.W.codeIn K cd23 "falls" = true) (k23 : PySem.W.keepIn K (.ref f23) = true)
    {f24 : Addr} {od24 an24 : Option Addr} {sl24 : Array (Option Value)} {oc24 kV24 dc24 pm24 cd24 ct24 : Value}
    (a24 : PySem.W.nsIn K mainGlobals "is_toil_paper" = some (some (.ref f24))) (l24 : K.lookup f24 = some ⟨oc24, od24, .func (PySem.W.fnOf "is_toil_paper" "is_toil_paper" (defArgs s_is_toil_paper) (defBody s_is_toil_paper) (defScope s_is_toil_paper) .none kV24 dc24 pm24 an24 cd24 ct24), sl24⟩) (c24 : PySem.W.codeIn K cd24 "is_toil_paper" = true) (k24 : PySem.W.keepIn K (.ref f24) = true)
    {f25 : Addr} {od25 an25 : Option Addr} {sl25 : Array (Option Value)} {oc25 kV25 dc25 pm25 cd25 ct25 : Value}
    (a25 : PySem.W.nsIn K mainGlobals "fraction" = some (some (.ref f25))) (l25 : K.lookup f25 = some ⟨oc25, od25, .func (PySem.W.fnOf "fraction" "fraction" (defArgs s_fraction) (defBody s_fraction) (defScope s_fraction) .none kV25 dc25 pm25 an25 cd25 ct25), sl25⟩) (c25 : PySem.W.codeIn K cd25 "fraction" = true) (k25 : PySem.W.keepIn K (.ref f25) = true)
    {f26 : Addr} {od26 an26 : Option Addr} {sl26 : Array (Option Value)} {oc26 kV26 dc26 pm26 cd26 ct26 : Value}
    (a26 : PySem.W.nsIn K mainGlobals "is_order" = some (some (.ref f26))) (l26 : K.lookup f26 = some ⟨oc26, od26, .func (PySem.W.fnOf "is_order" "is_order" (defArgs s_is_order) (defBody s_is_order) (defScope s_is_order) .none kV26 dc26 pm26 an26 cd26 ct26), sl26⟩) (c26 : PySem.W.codeIn K cd26 "is_order" = true) (k26 : PySem.W.keepIn K (.ref f26) = true)
    {f27 : Addr} {od27 an27 : Option Addr} {sl27 : Array (Option Value)} {oc27 kV27 dc27 pm27 cd27 ct27 : Value}
    (a27 : PySem.W.nsIn K mainGlobals "wait_by" = some (some (.ref f27))) (l27 : K.lookup f27 = some ⟨oc27, od27, .func (PySem.W.fnOf "wait_by" "wait_by" (defArgs s_wait_by) (defBody s_wait_by) (defScope s_wait_by) .none kV27 dc27 pm27 an27 cd27 ct27), sl27⟩) (c27 : PySem.W.codeIn K cd27 "wait_by" = true) (k27 : PySem.W.keepIn K (.ref f27) = true)
    {f28 : Addr} {od28 an28 : Option Addr} {sl28 : Array (Option Value)} {oc28 kV28 dc28 pm28 cd28 ct28 : Value}
    (a28 : PySem.W.nsIn K mainGlobals "wait_of" = some (some (.ref f28))) (l28 : K.lookup f28 = some ⟨oc28, od28, .func (PySem.W.fnOf "wait_of" "wait_of" (defArgs s_wait_of) (defBody s_wait_of) (defScope s_wait_of) .none kV28 dc28 pm28 an28 cd28 ct28), sl28⟩) (c28 : PySem.W.codeIn K cd28 "wait_of" = true) (k28 : PySem.W.keepIn K (.ref f28) = true)
    {f29 : Addr} {od29 an29 : Option Addr} {sl29 : Array (Option Value)} {oc29 kV29 dc29 pm29 cd29 ct29 : Value}
    (a29 : PySem.W.nsIn K mainGlobals "is_less" = some (some (.ref f29))) (l29 : K.lookup f29 = some ⟨oc29, od29, .func (PySem.W.fnOf "is_less" "is_less" (defArgs s_is_less) (defBody s_is_less) (defScope s_is_less) .none kV29 dc29 pm29 an29 cd29 ct29), sl29⟩) (c29 : PySem.W.codeIn K cd29 "is_less" = true) (k29 : PySem.W.keepIn K (.ref f29) = true)
    {f30 : Addr} {od30 an30 : Option Addr} {sl30 : Array (Option Value)} {oc30 kV30 dc30 pm30 cd30 ct30 : Value}
    (a30 : PySem.W.nsIn K mainGlobals "worth" = some (some (.ref f30))) (l30 : K.lookup f30 = some ⟨oc30, od30, .func (PySem.W.fnOf "worth" "worth" (defArgs s_worth) (defBody s_worth) (defScope s_worth) .none kV30 dc30 pm30 an30 cd30 ct30), sl30⟩) (c30 : PySem.W.codeIn K cd30 "worth" = true) (k30 : PySem.W.keepIn K (.ref f30) = true)
    {f31 : Addr} {od31 an31 : Option Addr} {sl31 : Array (Option Value)} {oc31 kV31 dc31 pm31 cd31 ct31 : Value}
    (a31 : PySem.W.nsIn K mainGlobals "lots_of" = some (some (.ref f31))) (l31 : K.lookup f31 = some ⟨oc31, od31, .func (PySem.W.fnOf "lots_of" "lots_of" (defArgs s_lots_of) (defBody s_lots_of) (defScope s_lots_of) .none kV31 dc31 pm31 an31 cd31 ct31), sl31⟩) (c31 : PySem.W.codeIn K cd31 "lots_of" = true) (k31 : PySem.W.keepIn K (.ref f31) = true)
    {f32 : Addr} {od32 an32 : Option Addr} {sl32 : Array (Option Value)} {oc32 kV32 dc32 pm32 cd32 ct32 : Value}
    (a32 : PySem.W.nsIn K mainGlobals "coin_paper" = some (some (.ref f32))) (l32 : K.lookup f32 = some ⟨oc32, od32, .func (PySem.W.fnOf "coin_paper" "coin_paper" (defArgs s_coin_paper) (defBody s_coin_paper) (defScope s_coin_paper) .none kV32 dc32 pm32 an32 cd32 ct32), sl32⟩) (c32 : PySem.W.codeIn K cd32 "coin_paper" = true) (k32 : PySem.W.keepIn K (.ref f32) = true)
    {f33 : Addr} {od33 an33 : Option Addr} {sl33 : Array (Option Value)} {oc33 kV33 dc33 pm33 cd33 ct33 : Value}
    (a33 : PySem.W.nsIn K mainGlobals "order_by" = some (some (.ref f33))) (l33 : K.lookup f33 = some ⟨oc33, od33, .func (PySem.W.fnOf "order_by" "order_by" (defArgs s_order_by) (defBody s_order_by) (defScope s_order_by) .none kV33 dc33 pm33 an33 cd33 ct33), sl33⟩) (c33 : PySem.W.codeIn K cd33 "order_by" = true) (k33 : PySem.W.keepIn K (.ref f33) = true)
    {f34 : Addr} {od34 an34 : Option Addr} {sl34 : Array (Option Value)} {oc34 kV34 dc34 pm34 cd34 ct34 : Value}
    (a34 : PySem.W.nsIn K mainGlobals "least_wait" = some (some (.ref f34))) (l34 : K.lookup f34 = some ⟨oc34, od34, .func (PySem.W.fnOf "least_wait" "least_wait" (defArgs s_least_wait) (defBody s_least_wait) (defScope s_least_wait) .none kV34 dc34 pm34 an34 cd34 ct34), sl34⟩) (c34 : PySem.W.codeIn K cd34 "least_wait" = true) (k34 : PySem.W.keepIn K (.ref f34) = true)
    {f35 : Addr} {od35 an35 : Option Addr} {sl35 : Array (Option Value)} {oc35 kV35 dc35 pm35 cd35 ct35 : Value}
    (a35 : PySem.W.nsIn K mainGlobals "finds_in" = some (some (.ref f35))) (l35 : K.lookup f35 = some ⟨oc35, od35, .func (PySem.W.fnOf "finds_in" "finds_in" (defArgs s_finds_in) (defBody s_finds_in) (defScope s_finds_in) .none kV35 dc35 pm35 an35 cd35 ct35), sl35⟩) (c35 : PySem.W.codeIn K cd35 "finds_in" = true) (k35 : PySem.W.keepIn K (.ref f35) = true)
    {f36 : Addr} {od36 an36 : Option Addr} {sl36 : Array (Option Value)} {oc36 kV36 dc36 pm36 cd36 ct36 : Value}
    (a36 : PySem.W.nsIn K mainGlobals "best_order" = some (some (.ref f36))) (l36 : K.lookup f36 = some ⟨oc36, od36, .func (PySem.W.fnOf "best_order" "best_order" (defArgs s_best_order) (defBody s_best_order) (defScope s_best_order) .none kV36 dc36 pm36 an36 cd36 ct36), sl36⟩) (c36 : PySem.W.codeIn K cd36 "best_order" = true) (k36 : PySem.W.keepIn K (.ref f36) = true)
    {f37 : Addr} {od37 an37 : Option Addr} {sl37 : Array (Option Value)} {oc37 kV37 dc37 pm37 cd37 ct37 : Value}
    (a37 : PySem.W.nsIn K mainGlobals "are_good" = some (some (.ref f37))) (l37 : K.lookup f37 = some ⟨oc37, od37, .func (PySem.W.fnOf "are_good" "are_good" (defArgs s_are_good) (defBody s_are_good) (defScope s_are_good) .none kV37 dc37 pm37 an37 cd37 ct37), sl37⟩) (c37 : PySem.W.codeIn K cd37 "are_good" = true) (k37 : PySem.W.keepIn K (.ref f37) = true)
    {f38 : Addr} {od38 an38 : Option Addr} {sl38 : Array (Option Value)} {oc38 kV38 dc38 pm38 cd38 ct38 : Value}
    (a38 : PySem.W.nsIn K mainGlobals "are_lots" = some (some (.ref f38))) (l38 : K.lookup f38 = some ⟨oc38, od38, .func (PySem.W.fnOf "are_lots" "are_lots" (defArgs s_are_lots) (defBody s_are_lots) (defScope s_are_lots) .none kV38 dc38 pm38 an38 cd38 ct38), sl38⟩) (c38 : PySem.W.codeIn K cd38 "are_lots" = true) (k38 : PySem.W.keepIn K (.ref f38) = true)
    {f39 : Addr} {od39 an39 : Option Addr} {sl39 : Array (Option Value)} {oc39 kV39 dc39 pm39 cd39 ct39 : Value}
    (a39 : PySem.W.nsIn K mainGlobals "coin_shown" = some (some (.ref f39))) (l39 : K.lookup f39 = some ⟨oc39, od39, .func (PySem.W.fnOf "coin_shown" "coin_shown" (defArgs s_coin_shown) (defBody s_coin_shown) (defScope s_coin_shown) .none kV39 dc39 pm39 an39 cd39 ct39), sl39⟩) (c39 : PySem.W.codeIn K cd39 "coin_shown" = true) (k39 : PySem.W.keepIn K (.ref f39) = true)
    {f40 : Addr} {od40 an40 : Option Addr} {sl40 : Array (Option Value)} {oc40 kV40 dc40 pm40 cd40 ct40 : Value}
    (a40 : PySem.W.nsIn K mainGlobals "reached" = some (some (.ref f40))) (l40 : K.lookup f40 = some ⟨oc40, od40, .func (PySem.W.fnOf "reached" "reached" (defArgs s_reached) (defBody s_reached) (defScope s_reached) .none kV40 dc40 pm40 an40 cd40 ct40), sl40⟩) (c40 : PySem.W.codeIn K cd40 "reached" = true) (k40 : PySem.W.keepIn K (.ref f40) = true)
    {f41 : Addr} {od41 an41 : Option Addr} {sl41 : Array (Option Value)} {oc41 kV41 dc41 pm41 cd41 ct41 : Value}
    (a41 : PySem.W.nsIn K mainGlobals "any_price" = some (some (.ref f41))) (l41 : K.lookup f41 = some ⟨oc41, od41, .func (PySem.W.fnOf "any_price" "any_price" (defArgs s_any_price) (defBody s_any_price) (defScope s_any_price) .none kV41 dc41 pm41 an41 cd41 ct41), sl41⟩) (c41 : PySem.W.codeIn K cd41 "any_price" = true) (k41 : PySem.W.keepIn K (.ref f41) = true)
    {f42 : Addr} {od42 an42 : Option Addr} {sl42 : Array (Option Value)} {oc42 kV42 dc42 pm42 cd42 ct42 : Value}
    (a42 : PySem.W.nsIn K mainGlobals "comes_to" = some (some (.ref f42))) (l42 : K.lookup f42 = some ⟨oc42, od42, .func (PySem.W.fnOf "comes_to" "comes_to" (defArgs s_comes_to) (defBody s_comes_to) (defScope s_comes_to) .none kV42 dc42 pm42 an42 cd42 ct42), sl42⟩) (c42 : PySem.W.codeIn K cd42 "comes_to" = true) (k42 : PySem.W.keepIn K (.ref f42) = true)
    {f43 : Addr} {od43 an43 : Option Addr} {sl43 : Array (Option Value)} {oc43 kV43 dc43 pm43 cd43 ct43 : Value}
    (a43 : PySem.W.nsIn K mainGlobals "fewest_spots" = some (some (.ref f43))) (l43 : K.lookup f43 = some ⟨oc43, od43, .func (PySem.W.fnOf "fewest_spots" "fewest_spots" (defArgs s_fewest_spots) (defBody s_fewest_spots) (defScope s_fewest_spots) .none kV43 dc43 pm43 an43 cd43 ct43), sl43⟩) (c43 : PySem.W.codeIn K cd43 "fewest_spots" = true) (k43 : PySem.W.keepIn K (.ref f43) = true)
    {f44 : Addr} {od44 an44 : Option Addr} {sl44 : Array (Option Value)} {oc44 kV44 dc44 pm44 cd44 ct44 : Value}
    (a44 : PySem.W.nsIn K mainGlobals "fence" = some (some (.ref f44))) (l44 : K.lookup f44 = some ⟨oc44, od44, .func (PySem.W.fnOf "fence" "fence" (defArgs s_fence) (defBody s_fence) (defScope s_fence) .none kV44 dc44 pm44 an44 cd44 ct44), sl44⟩) (c44 : PySem.W.codeIn K cd44 "fence" = true) (k44 : PySem.W.keepIn K (.ref f44) = true)
    {f45 : Addr} {od45 an45 : Option Addr} {sl45 : Array (Option Value)} {oc45 kV45 dc45 pm45 cd45 ct45 : Value}
    (a45 : PySem.W.nsIn K mainGlobals "is_fence" = some (some (.ref f45))) (l45 : K.lookup f45 = some ⟨oc45, od45, .func (PySem.W.fnOf "is_fence" "is_fence" (defArgs s_is_fence) (defBody s_is_fence) (defScope s_is_fence) .none kV45 dc45 pm45 an45 cd45 ct45), sl45⟩) (c45 : PySem.W.codeIn K cd45 "is_fence" = true) (k45 : PySem.W.keepIn K (.ref f45) = true)
    {f46 : Addr} {od46 an46 : Option Addr} {sl46 : Array (Option Value)} {oc46 kV46 dc46 pm46 cd46 ct46 : Value}
    (a46 : PySem.W.nsIn K mainGlobals "least_dearest" = some (some (.ref f46))) (l46 : K.lookup f46 = some ⟨oc46, od46, .func (PySem.W.fnOf "least_dearest" "least_dearest" (defArgs s_least_dearest) (defBody s_least_dearest) (defScope s_least_dearest) .none kV46 dc46 pm46 an46 cd46 ct46), sl46⟩) (c46 : PySem.W.codeIn K cd46 "least_dearest" = true) (k46 : PySem.W.keepIn K (.ref f46) = true)
    {f47 : Addr} {od47 an47 : Option Addr} {sl47 : Array (Option Value)} {oc47 kV47 dc47 pm47 cd47 ct47 : Value}
    (a47 : PySem.W.nsIn K mainGlobals "_law_draw" = some (some (.ref f47))) (l47 : K.lookup f47 = some ⟨oc47, od47, .func (PySem.W.fnOf "_law_draw" "_law_draw" (defArgs s__law_draw) (defBody s__law_draw) (defScope s__law_draw) .none kV47 dc47 pm47 an47 cd47 ct47), sl47⟩) (c47 : PySem.W.codeIn K cd47 "_law_draw" = true) (k47 : PySem.W.keepIn K (.ref f47) = true)
    {f48 : Addr} {od48 an48 : Option Addr} {sl48 : Array (Option Value)} {oc48 kV48 dc48 pm48 cd48 ct48 : Value}
    (a48 : PySem.W.nsIn K mainGlobals "_law_like" = some (some (.ref f48))) (l48 : K.lookup f48 = some ⟨oc48, od48, .func (PySem.W.fnOf "_law_like" "_law_like" (defArgs s__law_like) (defBody s__law_like) (defScope s__law_like) .none kV48 dc48 pm48 an48 cd48 ct48), sl48⟩) (c48 : PySem.W.codeIn K cd48 "_law_like" = true) (k48 : PySem.W.keepIn K (.ref f48) = true)
    {f49 : Addr} {od49 an49 : Option Addr} {sl49 : Array (Option Value)} {oc49 kV49 dc49 pm49 cd49 ct49 : Value}
    (a49 : PySem.W.nsIn K mainGlobals "_law_rows_right" = some (some (.ref f49))) (l49 : K.lookup f49 = some ⟨oc49, od49, .func (PySem.W.fnOf "_law_rows_right" "_law_rows_right" (defArgs s__law_rows_right) (defBody s__law_rows_right) (defScope s__law_rows_right) .none kV49 dc49 pm49 an49 cd49 ct49), sl49⟩) (c49 : PySem.W.codeIn K cd49 "_law_rows_right" = true) (k49 : PySem.W.keepIn K (.ref f49) = true)
    {f50 : Addr} {od50 an50 : Option Addr} {sl50 : Array (Option Value)} {oc50 kV50 dc50 pm50 cd50 ct50 : Value}
    (a50 : PySem.W.nsIn K mainGlobals "_law_one_right" = some (some (.ref f50))) (l50 : K.lookup f50 = some ⟨oc50, od50, .func (PySem.W.fnOf "_law_one_right" "_law_one_right" (defArgs s__law_one_right) (defBody s__law_one_right) (defScope s__law_one_right) .none kV50 dc50 pm50 an50 cd50 ct50), sl50⟩) (c50 : PySem.W.codeIn K cd50 "_law_one_right" = true) (k50 : PySem.W.keepIn K (.ref f50) = true)
    {f51 : Addr} {od51 an51 : Option Addr} {sl51 : Array (Option Value)} {oc51 kV51 dc51 pm51 cd51 ct51 : Value}
    (a51 : PySem.W.nsIn K mainGlobals "_law_coins_right" = some (some (.ref f51))) (l51 : K.lookup f51 = some ⟨oc51, od51, .func (PySem.W.fnOf "_law_coins_right" "_law_coins_right" (defArgs s__law_coins_right) (defBody s__law_coins_right) (defScope s__law_coins_right) .none kV51 dc51 pm51 an51 cd51 ct51), sl51⟩) (c51 : PySem.W.codeIn K cd51 "_law_coins_right" = true) (k51 : PySem.W.keepIn K (.ref f51) = true)
    {f52 : Addr} {od52 an52 : Option Addr} {sl52 : Array (Option Value)} {oc52 kV52 dc52 pm52 cd52 ct52 : Value}
    (a52 : PySem.W.nsIn K mainGlobals "law" = some (some (.ref f52))) (l52 : K.lookup f52 = some ⟨oc52, od52, .func (PySem.W.fnOf "law" "law" (defArgs s_law) (defBody s_law) (defScope s_law) .none kV52 dc52 pm52 an52 cd52 ct52), sl52⟩) (c52 : PySem.W.codeIn K cd52 "law" = true) (k52 : PySem.W.keepIn K (.ref f52) = true)
    (z0 : PySem.W.nsIn K mainGlobals "all" = some none)
    (z1 : PySem.W.nsIn K mainGlobals "any" = some none)
    (z2 : PySem.W.nsIn K mainGlobals "bool" = some none)
    (z3 : PySem.W.nsIn K mainGlobals "dict" = some none)
    (z4 : PySem.W.nsIn K mainGlobals "enumerate" = some none)
    (z5 : PySem.W.nsIn K mainGlobals "int" = some none)
    (z6 : PySem.W.nsIn K mainGlobals "isinstance" = some none)
    (z7 : PySem.W.nsIn K mainGlobals "len" = some none)
    (z8 : PySem.W.nsIn K mainGlobals "list" = some none)
    (z9 : PySem.W.nsIn K mainGlobals "max" = some none)
    (z10 : PySem.W.nsIn K mainGlobals "min" = some none)
    (z11 : PySem.W.nsIn K mainGlobals "range" = some none)
    (z12 : PySem.W.nsIn K mainGlobals "sorted" = some none)
    (z13 : PySem.W.nsIn K mainGlobals "sum" = some none)
    (z14 : PySem.W.nsIn K mainGlobals "tuple" = some none)
    (z15 : PySem.W.nsIn K mainGlobals "zip" = some none)
    {q0 : Tok} (y0 : PySem.W.nsIn K mainGlobals "MOST_DOLLS" = some (some (.int 6 q0)))
    (y1 : PySem.W.nsIn K mainGlobals "NEVER" = some (some .none))
    (law : ∀ ns : List Int, ns.length ≤ 63 → ∃ τ, b_law_k16 (lawE 4) (lawT ns) = some (.rt (.dat (.bool true)) τ)) :
    ∃ fd : FuncData, (∀ (s : Shared) (v : Value), BindsTo s fd ⟨[v], []⟩ [("script", v)]) ∧ ∀ base : Heap, K.In base → base.Ns mainGlobals mg → FnOk l.prog w K mg base CX0 22 fa fd ["script"] (spLaw K) := by
  have e := hfa.symm.trans (PySem.W.mg_of X G a52)
  cases e
  have T : Top K mg := {
    m_all := PySem.W.mg_none_of X G z0
    m_any := PySem.W.mg_none_of X G z1
    m_bool := PySem.W.mg_none_of X G z2
    m_dict := PySem.W.mg_none_of X G z3
    m_enumerate := PySem.W.mg_none_of X G z4
    m_int := PySem.W.mg_none_of X G z5
    m_isinstance := PySem.W.mg_none_of X G z6
    m_len := PySem.W.mg_none_of X G z7
    m_list := PySem.W.mg_none_of X G z8
    m_max := PySem.W.mg_none_of X G z9
    m_min := PySem.W.mg_none_of X G z10
    m_range := PySem.W.mg_none_of X G z11
    m_sorted := PySem.W.mg_none_of X G z12
    m_sum := PySem.W.mg_none_of X G z13
    m_tuple := PySem.W.mg_none_of X G z14
    m_zip := PySem.W.mg_none_of X G z15
    c_MOST_DOLLS := ⟨_, PySem.W.mg_of X G y0⟩
    c_NEVER := PySem.W.mg_of X G y1
    d_is_within := ⟨_, _, fun_mk (st := s_is_within) l0 c0 k0, PySem.W.mg_of X G a0, (fun_mk (st := s_is_within) l0 c0 k0).binds fun _ _ _ _ _ _ us hl => match us, hl with | [_, _, _], _ => rfl⟩
    d_rise := ⟨_, _, fun_mk (st := s_rise) l1 c1 k1, PySem.W.mg_of X G a1, (fun_mk (st := s_rise) l1 c1 k1).binds fun _ _ _ _ _ _ us hl => match us, hl with | [_], _ => rfl⟩
    d_is_stack := ⟨_, _, fun_mk (st := s_is_stack) l2 c2 k2, PySem.W.mg_of X G a2, (fun_mk (st := s_is_stack) l2 c2 k2).binds fun _ _ _ _ _ _ us hl => match us, hl with | [_], _ => rfl⟩
    d_dolls := ⟨_, _, fun_mk (st := s_dolls) l3 c3 k3, PySem.W.mg_of X G a3, (fun_mk (st := s_dolls) l3 c3 k3).binds fun _ _ _ _ _ _ us hl => match us, hl with | [_], _ => rfl⟩
    d_is_standing := ⟨_, _, fun_mk (st := s_is_standing) l4 c4 k4, PySem.W.mg_of X G a4, (fun_mk (st := s_is_standing) l4 c4 k4).binds fun _ _ _ _ _ _ us hl => match us, hl with | [_], _ => rfl⟩
    d_standings := ⟨_, _, fun_mk (st := s_standings) l5 c5 k5, PySem.W.mg_of X G a5, (fun_mk (st := s_standings) l5 c5 k5).binds fun _ _ _ _ _ _ us hl => match us, hl with | [_], _ => rfl⟩
    d_stack_of := ⟨_, _, fun_mk (st := s_stack_of) l6 c6 k6, PySem.W.mg_of X G a6, (fun_mk (st := s_stack_of) l6 c6 k6).binds fun _ _ _ _ _ _ us hl => match us, hl with | [_, _], _ => rfl⟩
    d_within := ⟨_, _, fun_mk (st := s_within) l7 c7 k7, PySem.W.mg_of X G a7, (fun_mk (st := s_within) l7 c7 k7).binds fun _ _ _ _ _ _ us hl => match us, hl with | [_, _], _ => rfl⟩
    d_moves := ⟨_, _, fun_mk (st := s_moves) l8 c8 k8, PySem.W.mg_of X G a8, (fun_mk (st := s_moves) l8 c8 k8).binds fun _ _ _ _ _ _ us hl => match us, hl with | [_, _], _ => rfl⟩
    d_moved := ⟨_, _, fun_mk (st := s_moved) l9 c9 k9, PySem.W.mg_of X G a9, (fun_mk (st := s_moved) l9 c9 k9).binds fun _ _ _ _ _ _ us hl => match us, hl with | [_, _], _ => rfl⟩
    d_is_move := ⟨_, _, fun_mk (st := s_is_move) l10 c10 k10, PySem.W.mg_of X G a10, (fun_mk (st := s_is_move) l10 c10 k10).binds fun _ _ _ _ _ _ us hl => match us, hl with | [_, _, _], _ => rfl⟩
    d_behind := ⟨_, _, fun_mk (st := s_behind) l11 c11 k11, PySem.W.mg_of X G a11, (fun_mk (st := s_behind) l11 c11 k11).binds fun _ _ _ _ _ _ us hl => match us, hl with | [_, _, _], _ => rfl⟩
    d_led := ⟨_, _, fun_mk (st := s_led) l12 c12 k12, PySem.W.mg_of X G a12, (fun_mk (st := s_led) l12 c12 k12).binds fun _ _ _ _ _ _ us hl => match us, hl with | [_, _, _], _ => rfl⟩
    d_unlike := ⟨_, _, fun_mk (st := s_unlike) l13 c13 k13, PySem.W.mg_of X G a13, (fun_mk (st := s_unlike) l13 c13 k13).binds fun _ _ _ _ _ _ us hl => match us, hl with | [_, _], _ => rfl⟩
    d_floor := ⟨_, _, fun_mk (st := s_floor) l14 c14 k14, PySem.W.mg_of X G a14, (fun_mk (st := s_floor) l14 c14 k14).binds fun _ _ _ _ _ _ us hl => match us, hl with | [_, _, _], _ => rfl⟩
    d_price_of := ⟨_, _, fun_mk (st := s_price_of) l15 c15 k15, PySem.W.mg_of X G a15, (fun_mk (st := s_price_of) l15 c15 k15).binds fun _ _ _ _ _ _ us hl => match us, hl with | [_, _], _ => rfl⟩
    d_toil_of := ⟨_, _, fun_mk (st := s_toil_of) l16 c16 k16, PySem.W.mg_of X G a16, (fun_mk (st := s_toil_of) l16 c16 k16).binds fun _ _ _ _ _ _ us hl => match us, hl with | [_, _], _ => rfl⟩
    d_all_standings := ⟨_, _, fun_mk (st := s_all_standings) l17 c17 k17, PySem.W.mg_of X G a17, (fun_mk (st := s_all_standings) l17 c17 k17).binds fun _ _ _ _ _ _ us hl => match us, hl with | [_, _], _ => rfl⟩
    d_far := ⟨_, _, fun_mk (st := s_far) l18 c18 k18, PySem.W.mg_of X G a18, (fun_mk (st := s_far) l18 c18 k18).binds fun _ _ _ _ _ _ us hl => match us, hl with | [_, _, _], _ => rfl⟩
    d_least_row := ⟨_, _, fun_mk (st := s_least_row) l19 c19 k19, PySem.W.mg_of X G a19, (fun_mk (st := s_least_row) l19 c19 k19).binds fun _ _ _ _ _ _ us hl => match us, hl with | [_, _, _, _], _ => rfl⟩
    d_toil_paper := ⟨_, _, fun_mk (st := s_toil_paper) l20 c20 k20, PySem.W.mg_of X G a20, (fun_mk (st := s_toil_paper) l20 c20 k20).binds fun _ _ _ _ _ _ us hl => match us, hl with | [_, _, _], _ => rfl⟩
    d_is_number := ⟨_, _, fun_mk (st := s_is_number) l21 c21 k21, PySem.W.mg_of X G a21, (fun_mk (st := s_is_number) l21 c21 k21).binds fun _ _ _ _ _ _ us hl => match us, hl with | [_], _ => rfl⟩
    d_is_entry := ⟨_, _, fun_mk (st := s_is_entry) l22 c22 k22, PySem.W.mg_of X G a22, (fun_mk (st := s_is_entry) l22 c22 k22).binds fun _ _ _ _ _ _ us hl => match us, hl with | [_], _ => rfl⟩
    d_falls := ⟨_, _, fun_mk (st := s_falls) l23 c23 k23, PySem.W.mg_of X G a23, (fun_mk (st := s_falls) l23 c23 k23).binds fun _ _ _ _ _ _ us hl => match us, hl with | [_, _, _, _], _ => rfl⟩
    d_is_toil_paper := ⟨_, _, fun_mk (st := s_is_toil_paper) l24 c24 k24, PySem.W.mg_of X G a24, (fun_mk (st := s_is_toil_paper) l24 c24 k24).binds fun _ _ _ _ _ _ us hl => match us, hl with | [_, _, _, _], _ => rfl⟩
    d_fraction := ⟨_, _, fun_mk (st := s_fraction) l25 c25 k25, PySem.W.mg_of X G a25, (fun_mk (st := s_fraction) l25 c25 k25).binds fun _ _ _ _ _ _ us hl => match us, hl with | [_, _], _ => rfl⟩
    d_is_order := ⟨_, _, fun_mk (st := s_is_order) l26 c26 k26, PySem.W.mg_of X G a26, (fun_mk (st := s_is_order) l26 c26 k26).binds fun _ _ _ _ _ _ us hl => match us, hl with | [_, _], _ => rfl⟩
    d_wait_by := ⟨_, _, fun_mk (st := s_wait_by) l27 c27 k27, PySem.W.mg_of X G a27, (fun_mk (st := s_wait_by) l27 c27 k27).binds fun _ _ _ _ _ _ us hl => match us, hl with | [_, _, _], _ => rfl⟩
    d_wait_of := ⟨_, _, fun_mk (st := s_wait_of) l28 c28 k28, PySem.W.mg_of X G a28, (fun_mk (st := s_wait_of) l28 c28 k28).binds fun _ _ _ _ _ _ us hl => match us, hl with | [_, _, _, _], _ => rfl⟩
    d_is_less := ⟨_, _, fun_mk (st := s_is_less) l29 c29 k29, PySem.W.mg_of X G a29, (fun_mk (st := s_is_less) l29 c29 k29).binds fun _ _ _ _ _ _ us hl => match us, hl with | [_, _], _ => rfl⟩
    d_worth := ⟨_, _, fun_mk (st := s_worth) l30 c30 k30, PySem.W.mg_of X G a30, (fun_mk (st := s_worth) l30 c30 k30).binds fun _ _ _ _ _ _ us hl => match us, hl with | [_, _, _], _ => rfl⟩
    d_lots_of := ⟨_, _, fun_mk (st := s_lots_of) l31 c31 k31, PySem.W.mg_of X G a31, (fun_mk (st := s_lots_of) l31 c31 k31).binds fun _ _ _ _ _ _ us hl => match us, hl with | [_, _, _], _ => rfl⟩
    d_coin_paper := ⟨_, _, fun_mk (st := s_coin_paper) l32 c32 k32, PySem.W.mg_of X G a32, (fun_mk (st := s_coin_paper) l32 c32 k32).binds fun _ _ _ _ _ _ us hl => match us, hl with | [_, _, _], _ => rfl⟩
    d_order_by := ⟨_, _, fun_mk (st := s_order_by) l33 c33 k33, PySem.W.mg_of X G a33, (fun_mk (st := s_order_by) l33 c33 k33).binds fun _ _ _ _ _ _ us hl => match us, hl with | [_, _, _], _ => rfl⟩
    d_least_wait := ⟨_, _, fun_mk (st := s_least_wait) l34 c34 k34, PySem.W.mg_of X G a34, (fun_mk (st := s_least_wait) l34 c34 k34).binds fun _ _ _ _ _ _ us hl => match us, hl with | [_, _, _], _ => rfl⟩
    d_finds_in := ⟨_, _, fun_mk (st := s_finds_in) l35 c35 k35, PySem.W.mg_of X G a35, (fun_mk (st := s_finds_in) l35 c35 k35).binds fun _ _ _ _ _ _ us hl => match us, hl with | [_, _, _], _ => rfl⟩
    d_best_order := ⟨_, _, fun_mk (st := s_best_order) l36 c36 k36, PySem.W.mg_of X G a36, (fun_mk (st := s_best_order) l36 c36 k36).binds fun _ _ _ _ _ _ us hl => match us, hl with | [_, _, _], _ => rfl⟩
    d_are_good := ⟨_, _, fun_mk (st := s_are_good) l37 c37 k37, PySem.W.mg_of X G a37, (fun_mk (st := s_are_good) l37 c37 k37).binds fun _ _ _ _ _ _ us hl => match us, hl with | [_, _, _], _ => rfl⟩
    d_are_lots := ⟨_, _, fun_mk (st := s_are_lots) l38 c38 k38, PySem.W.mg_of X G a38, (fun_mk (st := s_are_lots) l38 c38 k38).binds fun _ _ _ _ _ _ us hl => match us, hl with | [_, _], _ => rfl⟩
    d_coin_shown := ⟨_, _, fun_mk (st := s_coin_shown) l39 c39 k39, PySem.W.mg_of X G a39, (fun_mk (st := s_coin_shown) l39 c39 k39).binds fun _ _ _ _ _ _ us hl => match us, hl with | [_, _, _, _], _ => rfl⟩
    d_reached := ⟨_, _, fun_mk (st := s_reached) l40 c40 k40, PySem.W.mg_of X G a40, (fun_mk (st := s_reached) l40 c40 k40).binds fun _ _ _ _ _ _ us hl => match us, hl with | [_, _, _, _], _ => rfl⟩
    d_any_price := ⟨_, _, fun_mk (st := s_any_price) l41 c41 k41, PySem.W.mg_of X G a41, (fun_mk (st := s_any_price) l41 c41 k41).binds fun _ _ _ _ _ _ us hl => match us, hl with | [_], _ => rfl⟩
    d_comes_to := ⟨_, _, fun_mk (st := s_comes_to) l42 c42 k42, PySem.W.mg_of X G a42, (fun_mk (st := s_comes_to) l42 c42 k42).binds fun _ _ _ _ _ _ us hl => match us, hl with | [_, _], _ => rfl⟩
    d_fewest_spots := ⟨_, _, fun_mk (st := s_fewest_spots) l43 c43 k43, PySem.W.mg_of X G a43, (fun_mk (st := s_fewest_spots) l43 c43 k43).binds fun _ _ _ _ _ _ us hl => match us, hl with | [_, _], _ => rfl⟩
    d_fence := ⟨_, _, fun_mk (st := s_fence) l44 c44 k44, PySem.W.mg_of X G a44, (fun_mk (st := s_fence) l44 c44 k44).binds fun _ _ _ _ _ _ us hl => match us, hl with | [_, _, _], _ => rfl⟩
    d_is_fence := ⟨_, _, fun_mk (st := s_is_fence) l45 c45 k45, PySem.W.mg_of X G a45, (fun_mk (st := s_is_fence) l45 c45 k45).binds fun _ _ _ _ _ _ us hl => match us, hl with | [_, _, _, _], _ => rfl⟩
    d_least_dearest := ⟨_, _, fun_mk (st := s_least_dearest) l46 c46 k46, PySem.W.mg_of X G a46, (fun_mk (st := s_least_dearest) l46 c46 k46).binds fun _ _ _ _ _ _ us hl => match us, hl with | [_, _, _, _], _ => rfl⟩
    d__law_draw := ⟨_, _, fun_mk (st := s__law_draw) l47 c47 k47, PySem.W.mg_of X G a47, (fun_mk (st := s__law_draw) l47 c47 k47).binds fun _ _ _ _ _ _ us hl => match us, hl with | [_, _], _ => rfl⟩
    d__law_like := ⟨_, _, fun_mk (st := s__law_like) l48 c48 k48, PySem.W.mg_of X G a48, (fun_mk (st := s__law_like) l48 c48 k48).binds fun _ _ _ _ _ _ us hl => match us, hl with | [_, _], _ => rfl⟩
    d__law_rows_right := ⟨_, _, fun_mk (st := s__law_rows_right) l49 c49 k49, PySem.W.mg_of X G a49, (fun_mk (st := s__law_rows_right) l49 c49 k49).binds fun _ _ _ _ _ _ us hl => match us, hl with | [_], _ => rfl⟩
    d__law_one_right := ⟨_, _, fun_mk (st := s__law_one_right) l50 c50 k50, PySem.W.mg_of X G a50, (fun_mk (st := s__law_one_right) l50 c50 k50).binds fun _ _ _ _ _ _ us hl => match us, hl with | [_], _ => rfl⟩
    d__law_coins_right := ⟨_, _, fun_mk (st := s__law_coins_right) l51 c51 k51, PySem.W.mg_of X G a51, (fun_mk (st := s__law_coins_right) l51 c51 k51).binds fun _ _ _ _ _ _ us hl => match us, hl with | [_], _ => rfl⟩
  }
  exact ⟨PySem.W.fnOf "law" "law" (defArgs s_law) (defBody s_law) (defScope s_law) .none kV52 dc52 pm52 an52 cd52 ct52, fun s v => .of_eq rfl, fun base _ _ => w_law T (fun_mk (st := s_law) l52 c52 k52) law⟩
end
end K16
end ND

open PySem PySem.W PyProof.Rows
set_option Elab.async false
set_option maxRecDepth 100000 in
set_option maxHeartbeats 0 in
theorem PySem.Challenge.cw_nestdolls_k16_written_cases_and_names_holds : PySem.Challenge.rw_nestdolls_k16_written_cases_and_names.Holds := by
  w_on; o_law; k_head; (case hw => w_witness2)
  k_fill
  refine L2.walk_of (l := PySem.Challenge.rw_nestdolls_k16_written_cases_and_names) (n := 63) (k := 22) (x := "script") (CX := fun _ => L2.CX0) (sp := fun w => ND.spLaw _) rfl (by decide) rfl ⟨rfl, by decide, by decide⟩ (fun w h Y => PySem.W.kIn_of Y) ?F (fun _ _ a ns hl _ hS => ⟨a, ns, rfl, hS, hl, fun _ => rfl⟩) (fun _ _ _ _ _ h => h)
  case F =>
    intro w mg fa h KX G hmg
    refine' ND.K16.all_mk KX G hmg ?a0 ?l0 ?c0 ?k0 ?a1 ?l1 ?c1 ?k1 ?a2 ?l2 ?c2 ?k2 ?a3 ?l3 ?c3 ?k3 ?a4 ?l4 ?c4 ?k4 ?a5 ?l5 ?c5 ?k5 ?a6 ?l6 ?c6 ?k6 ?a7 ?l7 ?c7 ?k7 ?a8 ?l8 ?c8 ?k8 ?a9 ?l9 ?c9 ?k9 ?a10 ?l10 ?c10 ?k10 ?a11 ?l11 ?c11 ?k11 ?a12 ?l12 ?c12 ?k12 ?a13 ?l13 ?c13 ?k13 ?a14 ?l14 ?c14 ?k14 ?a15 ?l15 ?c15 ?k15 ?a16 ?l16 ?c16 ?k16 ?a17 ?l17 ?c17 ?k17 ?a18 ?l18 ?c18 ?k18 ?a19 ?l19 ?c19 ?k19 ?a20 ?l20 ?c20 ?k20 ?a21 ?l21 ?c21 ?k21 ?a22 ?l22 ?c22 ?k22 ?a23 ?l23 ?c23 ?k23 ?a24 ?l24 ?c24 ?k24 ?a25 ?l25 ?c25 ?k25 ?a26 ?l26 ?c26 ?k26 ?a27 ?l27 ?c27 ?k27 ?a28 ?l28 ?c28 ?k28 ?a29 ?l29 ?c29 ?k29 ?a30 ?l30 ?c30 ?k30 ?a31 ?l31 ?c31 ?k31 ?a32 ?l32 ?c32 ?k32 ?a33 ?l33 ?c33 ?k33 ?a34 ?l34 ?c34 ?k34 ?a35 ?l35 ?c35 ?k35 ?a36 ?l36 ?c36 ?k36 ?a37 ?l37 ?c37 ?k37 ?a38 ?l38 ?c38 ?k38 ?a39 ?l39 ?c39 ?k39 ?a40 ?l40 ?c40 ?k40 ?a41 ?l41 ?c41 ?k41 ?a42 ?l42 ?c42 ?k42 ?a43 ?l43 ?c43 ?k43 ?a44 ?l44 ?c44 ?k44 ?a45 ?l45 ?c45 ?k45 ?a46 ?l46 ?c46 ?k46 ?a47 ?l47 ?c47 ?k47 ?a48 ?l48 ?c48 ?k48 ?a49 ?l49 ?c49 ?k49 ?a50 ?l50 ?c50 ?k50 ?a51 ?l51 ?c51 ?k51 ?a52 ?l52 ?c52 ?k52 ?z0 ?z1 ?z2 ?z3 ?z4 ?z5 ?z6 ?z7 ?z8 ?z9 ?z10 ?z11 ?z12 ?z13 ?z14 ?z15 ?y0 ?y1 ND.law_k16
    (case a0 => k_is); (case l0 => k_is); (case c0 => k_is); (case k0 => k_is); (case a1 => k_is); (case l1 => k_is); (case c1 => k_is); (case k1 => k_is); (case a2 => k_is); (case l2 => k_is); (case c2 => k_is); (case k2 => k_is); (case a3 => k_is); (case l3 => k_is); (case c3 => k_is); (case k3 => k_is); (case a4 => k_is); (case l4 => k_is); (case c4 => k_is); (case k4 => k_is); (case a5 => k_is); (case l5 => k_is); (case c5 => k_is); (case k5 => k_is); (case a6 => k_is); (case l6 => k_is); (case c6 => k_is); (case k6 => k_is); (case a7 => k_is); (case l7 => k_is); (case c7 => k_is); (case k7 => k_is); (case a8 => k_is); (case l8 => k_is); (case c8 => k_is); (case k8 => k_is); (case a9 => k_is); (case l9 => k_is); (case c9 => k_is); (case k9 => k_is); (case a10 => k_is); (case l10 => k_is); (case c10 => k_is); (case k10 => k_is); (case a11 => k_is); (case l11 => k_is); (case c11 => k_is); (case k11 => k_is); (case a12 => k_is); (case l12 => k_is); (case c12 => k_is); (case k12 => k_is); (case a13 => k_is); (case l13 => k_is); (case c13 => k_is); (case k13 => k_is); (case a14 => k_is); (case l14 => k_is); (case c14 => k_is); (case k14 => k_is); (case a15 => k_is); (case l15 => k_is); (case c15 => k_is); (case k15 => k_is); (case a16 => k_is); (case l16 => k_is); (case c16 => k_is); (case k16 => k_is); (case a17 => k_is); (case l17 => k_is); (case c17 => k_is); (case k17 => k_is); (case a18 => k_is); (case l18 => k_is); (case c18 => k_is); (case k18 => k_is); (case a19 => k_is); (case l19 => k_is); (case c19 => k_is); (case k19 => k_is); (case a20 => k_is); (case l20 => k_is); (case c20 => k_is); (case k20 => k_is); (case a21 => k_is); (case l21 => k_is); (case c21 => k_is); (case k21 => k_is); (case a22 => k_is); (case l22 => k_is); (case c22 => k_is); (case k22 => k_is); (case a23 => k_is); (case l23 => k_is); (case c23 => k_is); (case k23 => k_is); (case a24 => k_is); (case l24 => k_is); (case c24 => k_is); (case k24 => k_is); (case a25 => k_is); (case l25 => k_is); (case c25 => k_is); (case k25 => k_is); (case a26 => k_is); (case l26 => k_is); (case c26 => k_is); (case k26 => k_is); (case a27 => k_is); (case l27 => k_is); (case c27 => k_is); (case k27 => k_is); (case a28 => k_is); (case l28 => k_is); (case c28 => k_is); (case k28 => k_is); (case a29 => k_is); (case l29 => k_is); (case c29 => k_is); (case k29 => k_is); (case a30 => k_is); (case l30 => k_is); (case c30 => k_is); (case k30 => k_is); (case a31 => k_is); (case l31 => k_is); (case c31 => k_is); (case k31 => k_is); (case a32 => k_is); (case l32 => k_is); (case c32 => k_is); (case k32 => k_is); (case a33 => k_is); (case l33 => k_is); (case c33 => k_is); (case k33 => k_is); (case a34 => k_is); (case l34 => k_is); (case c34 => k_is); (case k34 => k_is); (case a35 => k_is); (case l35 => k_is); (case c35 => k_is); (case k35 => k_is); (case a36 => k_is); (case l36 => k_is); (case c36 => k_is); (case k36 => k_is); (case a37 => k_is); (case l37 => k_is); (case c37 => k_is); (case k37 => k_is); (case a38 => k_is); (case l38 => k_is); (case c38 => k_is); (case k38 => k_is); (case a39 => k_is); (case l39 => k_is); (case c39 => k_is); (case k39 => k_is); (case a40 => k_is); (case l40 => k_is); (case c40 => k_is); (case k40 => k_is); (case a41 => k_is); (case l41 => k_is); (case c41 => k_is); (case k41 => k_is); (case a42 => k_is); (case l42 => k_is); (case c42 => k_is); (case k42 => k_is); (case a43 => k_is); (case l43 => k_is); (case c43 => k_is); (case k43 => k_is); (case a44 => k_is); (case l44 => k_is); (case c44 => k_is); (case k44 => k_is); (case a45 => k_is); (case l45 => k_is); (case c45 => k_is); (case k45 => k_is); (case a46 => k_is); (case l46 => k_is); (case c46 => k_is); (case k46 => k_is); (case a47 => k_is); (case l47 => k_is); (case c47 => k_is); (case k47 => k_is); (case a48 => k_is); (case l48 => k_is); (case c48 => k_is); (case k48 => k_is); (case a49 => k_is); (case l49 => k_is); (case c49 => k_is); (case k49 => k_is); (case a50 => k_is); (case l50 => k_is); (case c50 => k_is); (case k50 => k_is); (case a51 => k_is); (case l51 => k_is); (case c51 => k_is); (case k51 => k_is); (case a52 => k_is); (case l52 => k_is); (case c52 => k_is); (case k52 => k_is); (case z0 => k_is); (case z1 => k_is); (case z2 => k_is); (case z3 => k_is); (case z4 => k_is); (case z5 => k_is); (case z6 => k_is); (case z7 => k_is); (case z8 => k_is); (case z9 => k_is); (case z10 => k_is); (case z11 => k_is); (case z12 => k_is); (case z13 => k_is); (case z14 => k_is); (case z15 => k_is); (case y0 => k_is); (case y1 => k_is)
