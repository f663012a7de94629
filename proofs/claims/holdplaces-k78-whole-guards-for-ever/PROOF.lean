import PyProof.Rows.All
import Wide.All
import OpenK.AllK
import Wide.FinOn
import KE.SortData
import KE.DatumOrd
import KE.DataCmp
import KE.DataMinMax
import HandS.ForMost
import HandS.Deep
import HandS.TupAny
import HandS.TupLe
import HandS.SortKw
import HandS.Walk
import HandS.Zip
import HandS.Conv
import HandS.IsInst
import HandS.Flow
import PyProof.Draws
import KE.GoesMore
import KE.GoesEnum
import PyProof.SumWalk
import HandS.Defaults
import HandS.HeadHook2
import HandS.TupLen
import KE.KStateDown
import HandS.Ends
import HandS.More
import HandS.Words
import HandS.WordsExc
import HandS.Head0
import HandS.Head1
import HandS.Head2
import HandS.HeadEnd
import HandS.HeadHook1
import PySem.Challenge.RW_holdplaces_k78_whole_guards_for_ever
set_option Elab.async false
set_option linter.all false
set_option maxRecDepth 100000
set_option maxHeartbeats 4000000
/-! data with a Lean type over the layer's heap, and rules by it -/
namespace GF
open PySem PySem.Spec PySem.W PyProof.Rows L2

/-! ### numbers from 0 on -/
instance : Datum Nat where
  toD n := .int (n : Int)
  plain _ := rfl
  eqv a b := by
    simp only [PyData.eqv]
    rw [beq_decide]
    exact decide_eq_decide.mpr ⟨fun h => Int.ofNat.inj h, fun h => congrArg _ h⟩
  depth := 0
  depth_le _ := Nat.le_refl _
instance : DatumOrd Nat where
  lt a b := decide (a < b)
  alike a b := by show PySem.W.alike (.int a) (.int b) = true; simp only [PySem.W.alike]
  notNone a := fun e => by cases e
  lt_eq a b := (dataLt_int a b).trans (decide_eq_decide.mpr Int.ofNat_lt)

/-- some: places, rising -/
abbrev Sm := Tup Nat
/-- a web -/
abbrev Wb := Nat × Tup (Nat × Nat)

section
variable {α β : Type} [DecidableEq α] [Datum α] [DecidableEq β] [Datum β] {K : PySem.W.Frag} {H H' : Hp} {v : V} {vs : List V}
abbrev DD (K : PySem.W.Frag) (H : Hp) (v : V) (x : α) : Prop := Dp K H v (Datum.toD x)
abbrev DDs (K : PySem.W.Frag) (H : Hp) (vs : List V) (xs : List α) : Prop := DpAll K H vs (xs.map Datum.toD)
theorem same_rd {a : Addr} {u : HO} (e : Same H H') (h : Rd H a u) : Rd H' a u := by
  rcases h with h | ⟨o, h⟩
  · exact Or.inl (e a _ h)
  · exact Or.inr ⟨o, e a _ h⟩
theorem same_l {a : Addr} {xs : List V} (e : Same H H') (h : SqL K H a xs) : SqL K H' a xs := e.seq h
theorem same_t {a : Addr} {xs : List V} (e : Same H H') (h : SqT K H a xs) : SqT K H' a xs := by
  rcases h with h | h
  · exact Or.inl (same_rd e h)
  · exact Or.inr h
mutual
theorem dp_same (e : Same H H') : ∀ {v : V} {d : PyData}, Dp K H v d → Dp K H' v d
  | _, _, .non => .non
  | _, _, .bl b => .bl b
  | _, _, .int i => .int i
  | _, _, .str x => .str x
  | _, _, .lst h t => .lst (same_l e h) (dps_same e t)
  | _, _, .tup h t => .tup (same_t e h) (dps_same e t)
theorem dps_same (e : Same H H') : ∀ {vs : List V} {ds : List PyData}, DpAll K H vs ds → DpAll K H' vs ds
  | _, _, .nil => .nil
  | _, _, .cons h t => .cons (dp_same e h) (dps_same e t)
end
theorem same_new {p : Addr} {o : HO} (h : H p = Option.none) : Same H (upd H p o) := fun a u e => by
  rw [upd_ne (ne_of_none e h)]
  exact e
/-- an object that H does not know may change -/
theorem same_mut {p : Addr} {o : HO} (e : Same H H') (h : H p = Option.none) : Same H (upd H' p o) := fun a u ha => by
  rw [upd_ne (ne_of_none ha h)]
  exact e a u ha
theorem dd_int {i : Int} (h : DD K H v i) : v = .int i := by cases h; rfl
theorem dd_nat {i : Nat} (h : DD K H v i) : v = .int (i : Int) := by cases h; rfl
theorem dd_bl {i : Bool} (h : DD K H v i) : v = .bl i := by cases h; rfl
theorem dd_lst {l : List α} (h : DD K H v l) : ∃ a xs, v = .ref a ∧ SqL K H a xs ∧ DDs K H xs l := by
  cases h with
  | lst h t => exact ⟨_, _, rfl, h, t⟩
theorem dd_tup {t : Tup α} (h : DD K H v t) : ∃ a xs, v = .ref a ∧ SqT K H a xs ∧ DDs K H xs t.items := by
  cases h with
  | tup h t => exact ⟨_, _, rfl, h, t⟩
theorem dds_nil (h : DDs K H vs ([] : List α)) : vs = [] := by cases h; rfl
theorem dds_cons {x : α} {l : List α} (h : DDs K H vs (x :: l)) : ∃ y ys, vs = y :: ys ∧ DD K H y x ∧ DDs K H ys l := by
  cases h with
  | cons a b => exact ⟨_, _, rfl, a, b⟩
theorem dd_pair {p : α × β} (h : DD K H v p) : ∃ a x y, v = .ref a ∧ SqT K H a [x, y] ∧ DD K H x p.1 ∧ DD K H y p.2 := by
  cases h with
  | tup h t =>
    cases t with
    | cons h1 t =>
      cases t with
      | cons h2 t =>
        cases t
        exact ⟨_, _, _, rfl, h, h1, h2⟩
theorem dps_length : ∀ {vs : List V} {ds : List PyData}, DpAll K H vs ds → vs.length = ds.length
  | _, _, .nil => rfl
  | _, _, .cons _ t => congrArg (· + 1) (dps_length t)
theorem dds_length {l : List α} (h : DDs K H vs l) : vs.length = l.length := by
  rw [dps_length h, List.length_map]
theorem dps_append : ∀ {vs ws : List V} {ds es : List PyData}, DpAll K H vs ds → DpAll K H ws es → DpAll K H (vs ++ ws) (ds ++ es)
  | _, _, _, _, .nil, s => s
  | _, _, _, _, .cons h t, s => .cons h (dps_append t s)
theorem dds_append {vs ws : List V} {l m : List α} (h : DDs K H vs l) (g : DDs K H ws m) : DDs K H (vs ++ ws) (l ++ m) := by
  show DpAll K H _ _
  rw [List.map_append]
  exact dps_append h g
theorem dds_one {x : α} (h : DD K H v x) : DDs K H [v] [x] := .cons h .nil
theorem dds_at : ∀ {vs : List V} {l : List α}, DDs K H vs l → ∀ {i : Nat} {v : V}, vs[i]? = some v → ∃ x, l[i]? = some x ∧ DD K H v x
  | _, [], h, i, v, e => by
    rw [dds_nil h] at e
    cases e
  | _, x :: l, h, i, v, e => by
    obtain ⟨y, ys, rfl, h1, h2⟩ := dds_cons h
    cases i with
    | zero =>
      cases e
      exact ⟨x, rfl, h1⟩
    | succ i => exact dds_at h2 (i := i) e
theorem dds_get : ∀ {vs : List V} {l : List α}, DDs K H vs l → ∀ {i : Nat} {x : α}, l[i]? = some x → ∃ v, vs[i]? = some v ∧ DD K H v x
  | _, [], h, i, v, e => by cases e
  | _, x :: l, h, i, v, e => by
    obtain ⟨y, ys, rfl, h1, h2⟩ := dds_cons h
    cases i with
    | zero =>
      cases e
      exact ⟨y, rfl, h1⟩
    | succ i => exact dds_get h2 (i := i) e
theorem dps_drop : ∀ {vs : List V} {ds : List PyData} (n : Nat), DpAll K H vs ds → DpAll K H (vs.drop n) (ds.drop n)
  | _, _, 0, h => h
  | _, _, _ + 1, .nil => .nil
  | _, _, n + 1, .cons _ t => dps_drop n t
theorem dps_take : ∀ {vs : List V} {ds : List PyData} (n : Nat), DpAll K H vs ds → DpAll K H (vs.take n) (ds.take n)
  | _, _, 0, _ => .nil
  | _, _, _ + 1, .nil => .nil
  | _, _, n + 1, .cons h t => .cons h (dps_take n t)
theorem dds_drop {l : List α} (n : Nat) (h : DDs K H vs l) : DDs K H (vs.drop n) (l.drop n) := by
  show DpAll K H _ _
  rw [List.map_drop]
  exact dps_drop n h
theorem dds_take {l : List α} (n : Nat) (h : DDs K H vs l) : DDs K H (vs.take n) (l.take n) := by
  show DpAll K H _ _
  rw [List.map_take]
  exact dps_take n h
theorem dds_ints : ∀ {vs : List V} {l : List Int}, DDs K H vs l → vs = l.map V.int
  | _, [], h => dds_nil h
  | _, x :: l, h => by
    obtain ⟨y, ys, rfl, h1, h2⟩ := dds_cons h
    rw [dd_int h1, dds_ints h2]
    rfl
theorem ints_dds : ∀ l : List Int, DDs K H (l.map V.int) l
  | [] => .nil
  | x :: l => .cons (.int x) (ints_dds l)
theorem dds_nats : ∀ {vs : List V} {l : List Nat}, DDs K H vs l → vs = l.map fun n : Nat => V.int (n : Int)
  | _, [], h => dds_nil h
  | _, x :: l, h => by
    obtain ⟨y, ys, rfl, h1, h2⟩ := dds_cons h
    rw [dd_nat h1, dds_nats h2]
    rfl
theorem nats_dds : ∀ l : List Nat, DDs K H (l.map fun n : Nat => V.int (n : Int)) l
  | [] => .nil
  | x :: l => .cons (.int x) (nats_dds l)
theorem dds_bls : ∀ {vs : List V} {l : List Bool}, DDs K H vs l → vs = l.map V.bl
  | _, [], h => dds_nil h
  | _, x :: l, h => by
    obtain ⟨y, ys, rfl, h1, h2⟩ := dds_cons h
    rw [dd_bl h1, dds_bls h2]
    rfl
theorem dd_ofL {a : Addr} {xs : List V} {l : List α} (h : SqL K H a xs) (g : DDs K H xs l) : DD K H (.ref a) l := .lst h g
theorem dd_ofT {a : Addr} {xs : List V} {l : List α} (h : SqT K H a xs) (g : DDs K H xs l) : DD K H (.ref a) (Tup.mk l) := .tup h g
end

/-! ### what the values hold -/
section
variable {X : Cx} {pins : List (Addr × Obj)} {σ : L2.St} {H : Hp} {s : Shared} {α : Type} [DecidableEq α]
theorem holds_of [Datum α] (I : Inv X pins σ H s) {v : V} {u : Value} {x : α} (h : DD X.K H v x) (r : RelV v u) : Holds s.heap u x := Dp.reads I _ _ _ h r
theorem holdAll_of [Datum α] (I : Inv X pins σ H s) {vs : List V} {us : List Value} {xs : List α} (h : DDs X.K H vs xs) (r : Vals vs us) : HoldAll s.heap us xs := Dp.readsAll I _ _ _ h r
theorem each_of [Datum α] (I : Inv X pins σ H s) : ∀ {vs : List V} {us : List Value} {xs : List α}, DDs X.K H vs xs → Vals vs us → EachIs (fun u x => (∃ v, RelV v u ∧ DD X.K H v x) ∧ ∃ as, Reads s.heap u (Datum.toD x) as) us xs
  | _, _, [], h, r => by
    rw [dds_nil h] at r
    cases r
    exact .nil
  | _, _, x :: l, h, r => by
    obtain ⟨y, ys, rfl, h1, h2⟩ := dds_cons h
    cases r with
    | cons r1 r2 => exact .cons ⟨⟨y, r1, h1⟩, Dp.reads I _ _ _ h1 r1⟩ (each_of I h2 r2)
theorem of_each [Datum α] {K : PySem.W.Frag} : ∀ {us : List Value} {xs : List α}, EachIs (fun u x => ∃ v, RelV v u ∧ DD K H v x) us xs → ∃ vs, Vals vs us ∧ DDs K H vs xs
  | _, _, .nil => ⟨[], .nil, .nil⟩
  | _, _, .cons ⟨v, h1, h2⟩ t => by
    obtain ⟨vs, h3, h4⟩ := of_each t
    exact ⟨v :: vs, .cons h1 h3, .cons h2 h4⟩

variable [Datum α] (hd : Datum.depth α ≤ 60) (hu : X.A.units + 64 < cLine)
include hd hu
theorem op_eqT : OpR X (compareOp .Eq) (fun x y H Q => ∃ a b : α, DD X.K H x a ∧ DD X.K H y b ∧ Q (.bl (decide (a = b))) H) := by
  intro pins s σ H x y v u Q I rx ry h
  obtain ⟨a, b, ha, hb, q⟩ := h
  exact eq_datum (holds_of I ha rx) (holds_of I hb ry) (by omega) ⟨.bl _, H, I, rfl, q⟩
theorem op_neT : OpR X (compareOp .NotEq) (fun x y H Q => ∃ a b : α, DD X.K H x a ∧ DD X.K H y b ∧ Q (.bl (decide (a ≠ b))) H) := by
  intro pins s σ H x y v u Q I rx ry h
  obtain ⟨a, b, ha, hb, q⟩ := h
  exact ne_datum (holds_of I ha rx) (holds_of I hb ry) (by omega) ⟨.bl _, H, I, rfl, q⟩
theorem op_inL : OpR X (compareOp .In) (fun x y H Q => ∃ (a : α) (l : List α), DD X.K H x a ∧ DD X.K H y l ∧ Q (.bl (decide (a ∈ l))) H) := by
  intro pins s σ H x y v u Q I rx ry h
  obtain ⟨a, l, ha, hb, q⟩ := h
  obtain ⟨p, xs, rfl, h1, h2⟩ := dd_lst hb
  cases ry
  obtain ⟨its, rv, hl, _⟩ := I.list h1
  exact in_list_datum hl.isList (holdAll_of I h2 rv) (holds_of I ha rx) (by omega) ⟨.bl _, H, I, rfl, q⟩
theorem op_ninL : OpR X (compareOp .NotIn) (fun x y H Q => ∃ (a : α) (l : List α), DD X.K H x a ∧ DD X.K H y l ∧ Q (.bl (decide (a ∉ l))) H) := by
  intro pins s σ H x y v u Q I rx ry h
  obtain ⟨a, l, ha, hb, q⟩ := h
  obtain ⟨p, xs, rfl, h1, h2⟩ := dd_lst hb
  cases ry
  obtain ⟨its, rv, hl, _⟩ := I.list h1
  exact notIn_list_datum hl.isList (holdAll_of I h2 rv) (holds_of I ha rx) (by omega) ⟨.bl _, H, I, rfl, q⟩
theorem op_inT : OpR X (compareOp .In) (fun x y H Q => ∃ (a : α) (l : Tup α), DD X.K H x a ∧ DD X.K H y l ∧ Q (.bl (decide (a ∈ l.items))) H) := by
  intro pins s σ H x y v u Q I rx ry h
  obtain ⟨a, l, ha, hb, q⟩ := h
  obtain ⟨p, xs, rfl, h1, h2⟩ := dd_tup hb
  cases ry
  obtain ⟨its, rv, hl, _⟩ := I.tuple h1
  exact in_tuple_datum hl (holdAll_of I h2 rv) (holds_of I ha rx) (by omega) ⟨.bl _, H, I, rfl, q⟩
theorem op_ninT : OpR X (compareOp .NotIn) (fun x y H Q => ∃ (a : α) (l : Tup α), DD X.K H x a ∧ DD X.K H y l ∧ Q (.bl (decide (a ∉ l.items))) H) := by
  intro pins s σ H x y v u Q I rx ry h
  obtain ⟨a, l, ha, hb, q⟩ := h
  obtain ⟨p, xs, rfl, h1, h2⟩ := dd_tup hb
  cases ry
  obtain ⟨its, rv, hl, _⟩ := I.tuple h1
  exact notIn_tuple_datum hl (holdAll_of I h2 rv) (holds_of I ha rx) (by omega) ⟨.bl _, H, I, rfl, q⟩
end
section
variable {X : Cx} {α : Type} [DecidableEq α] [DatumOrd α]
theorem op_geT (hd : Datum.depth α ≤ 60) (hu : X.A.units + 64 < cLine) : OpR X (compareOp .GtE) (fun x y H Q => ∃ a b : α, DD X.K H x a ∧ DD X.K H y b ∧ Q (.bl (!DatumOrd.lt a b)) H) := by
  intro pins s σ H x y v u Q I rx ry h
  obtain ⟨a, b, ha, hb, q⟩ := h
  exact ge_datum (holds_of I ha rx) (holds_of I hb ry) (by omega) ⟨.bl _, H, I, rfl, q⟩
theorem op_leD (hd : Datum.depth α ≤ 60) (hu : X.A.units + 64 < cLine) : OpR X (compareOp .LtE) (fun x y H Q => ∃ a b : α, DD X.K H x a ∧ DD X.K H y b ∧ Q (.bl (!DatumOrd.lt b a)) H) := by
  intro pins s σ H x y v u Q I rx ry h
  obtain ⟨a, b, ha, hb, q⟩ := h
  exact le_datum (holds_of I ha rx) (holds_of I hb ry) (by omega) ⟨.bl _, H, I, rfl, q⟩
/-- max(l, default=d), ints -/
def maxOr (d : Int) : List Int → Int
  | [] => d
  | y :: ys => maxOf y ys
theorem cr_maxD (hc : X.calm = true) (hu : X.A.units + 64 < cLine) : CallRK X (.builtin "max") [Str.ofString "default"] (fun vs zs H Q => ∃ (l : List Int) (d : Int) (v : V), vs = [v] ∧ zs = [.int d] ∧ DD X.K H v l ∧ Q (.int (maxOr d l)) H) := by
  intro pins s σ H vs zs us ws Q I r rz h
  obtain ⟨l, d, v, rfl, rfl, hl, q⟩ := h
  obtain ⟨p, xs, rfl, h1, h2⟩ := dd_lst hl
  rw [Vals.ref1 r]
  obtain ⟨w1, rfl, e1⟩ := vals1 rz
  obtain ⟨t, rfl⟩ := e1
  obtain ⟨its, rv, hl, _⟩ := I.list h1
  show wpAny _ _ (call (.builtin "max") [.ref p] [(Str.ofString "default", Value.int d t)]) _ _ _
  refine max_list_datum_default (I.ok.hd hc) hl.isList (holdAll_of I h2 rv) (by show X.A.units + 1 + 0 < cLine; omega) (fun e h' tk hk => ?_) fun y ys i v h' tk e hi hv hk => ?_
  · subst e
    exact ⟨.int d, H, I.kept hk, ⟨t, rfl⟩, q⟩
  · subst e
    obtain ⟨t', rfl⟩ := int_of_holds hv
    exact ⟨.int _, H, I.kept hk, ⟨t', rfl⟩, q⟩
end
end GF
set_option Elab.async false
set_option linter.all false
set_option maxRecDepth 100000
set_option maxHeartbeats 4000000
/-! rules that the library lacks: sorted of tuples of which the first is empty; enumerate of a tuple; sum of lists -/
namespace GF
open PySem PySem.Spec PySem.W PyProof.Rows L2

/-! ### sorted -/
section
variable {prog : Program} {w : World} {A : Around} {E : Value → Shared → Prop} {s : Shared}
theorem call_tuple_lt {Q : Value → Shared → Prop} {l b : Addr} {items items2 : Array Value} {e r : Nat → Bool} (hl : s.heap.IsTuple l items) (hb : s.heap.IsTuple b items2)
    (he : ∀ j (h1 : j < items.size) (h2 : j < items2.size), SeqAt.EqAt A.in1 s items[j] items2[j] (e j)) (hr : ∀ j (h1 : j < items.size) (h2 : j < items2.size), e j = false → SeqAt.RcLt A.in1 s items[j] items2[j] (r j))
    (h : Q (.bool (SeqAt.firstLt e r (decide (items.size < items2.size)) (List.range (min items.size items2.size)))) s) : wpAny (model prog w) A (call (.builtin "tuple.__lt__") [.ref l, .ref b]) Q E s := by
  obtain ⟨⟨cls, dd, data, sl⟩, ho, hc, n, hd⟩ := id hl
  obtain ⟨⟨cls2, dd2, data2, sl2⟩, ho2, hc2, n2, hd2⟩ := id hb
  simp only at hc hd hc2 hd2
  subst hc hd hc2 hd2
  exact call_meets F.slot_tuple_lt ⟨_, ho, rfl⟩ F.entry_tuple_lt (F.args_tuple_lt_2 _ _) (SeqAt.tuple_ltAt l b items items2 n n2 dd dd2 sl sl2 e r) ⟨ho, ho2, he, hr, h⟩
/-- one key against another, both tuples, by the tuples' own < -/
theorem oneLt_tups {xs ys : List PyData} {a b : Value} {as bs : List Addr} {Q : Bool → Shared → Prop} (ra : Reads s.heap a (.tuple xs) as) (rb : Reads s.heap b (.tuple ys) bs) (hal : alikeAll xs ys = true)
    (hu : A.units + min (PyData.depth (.tuple xs)) (PyData.depth (.tuple ys)) < cLine) (hq : Q (dataLt (.tuple xs) (.tuple ys)) s) : wpAny (model prog w) A (oneLt' true a b) Q E s := by
  cases ra with
  | @tuple l o vs n _ as₁ h1 h2 h3 h4 =>
    cases rb with
    | @tuple l' o' vs' n' _ bs₁ k1 k2 k3 k4 =>
      have n1 : vs.size = xs.length := by simpa using SeqAt.ReadsAll.length _ _ _ h4
      have n2 : vs'.size = ys.length := by simpa using SeqAt.ReadsAll.length _ _ _ k4
      rw [dataLt_tuple, ← firstLt_toks xs ys hal, ← n1, ← n2] at hq
      rw [oneLt'_eq]
      simp only [if_true]
      refine wpAny_bind (wpAny_cRoomFor (SeqAt.room_here hu) ?_)
      refine wpAny_bind (wpAny_callSpecialIfBound?_slot (T := "tuple") ⟨_, h1, h2⟩ F.slot_tuple_lt (call_tuple_lt (e := SeqAt.pairEq xs ys) (r := fun j => dataLt (xs.getD j .none) (ys.getD j .none)) ⟨_, h1, h2, _, h3⟩ ⟨_, k1, k2, _, k3⟩ (fun j j1 j2 => ?_) (fun j j1 j2 hj => ?_) ?_))
      · have := eqAt_alikeAll xs ys A.in1 s vs.toList vs'.toList _ _ h4 k4 hal (SeqAt.room_in hu) j (by simpa using j1) (by simpa using j2)
        simpa using this
      · have := rcLt_alikeAll xs ys A.in1 s vs.toList vs'.toList _ _ h4 k4 hal (SeqAt.room_in hu) j (by simpa using j1) (by simpa using j2) hj
        simpa using this
      · exact wpAny_truthy_bool hq
/-- the first items of tuples, where they have one -/
theorem firsts_run {M : Model} : ∀ (vs : List Value) (ds : List PyData) {Q : List (Option Value) → Shared → Prop}, EachIs (fun v d => ∃ as, Reads s.heap v d as) vs ds → (∀ d ∈ ds, ∃ xs, d = PyData.tuple xs) →
    (∀ fs : List (Option Value), fs.length = vs.length → (∀ i : Nat, ds[i]? = some (PyData.tuple []) → fs[i]? = some none) → Q fs s) → wpAny M A (vs.mapM firstOfTuple') Q E s
  | [], [], Q, _, _, h => by
    rw [List.mapM_nil]
    exact wpAny_pure (h [] rfl fun i e => by cases e)
  | [], _ :: _, _, e, _, _ => by cases e
  | _ :: _, [], _, e, _, _ => by cases e
  | v :: vs, d :: ds, Q, e, ht, h => by
    cases e with
    | cons r t =>
      obtain ⟨as, r⟩ := r
      obtain ⟨xs, rfl⟩ := ht d List.mem_cons_self
      cases r with
      | @tuple a o ws n _ _ h1 h2 h3 h4 =>
        rw [List.mapM_cons]
        refine wpAny_bind ?_
        rw [kas_first_eq]
        refine wpAny_bind (Looks.here (show Looks M s.heap (typeOf (.ref a)) o.cls from (Looks.ld h1).andThen .now) ?_)
        rw [h2, if_neg (by first | decide | simp)]
        refine wpAny_bind (listItems_at h1 h3 (wpAny_pure ?_))
        refine wpAny_bind (firsts_run vs ds t (fun d hd => ht d (List.mem_cons_of_mem _ hd)) fun fs hl hf => wpAny_pure (h (ws[0]? :: fs) (by simp [hl]) fun i ei => ?_))
        cases i with
        | zero =>
          have e0 : xs = [] := by
            have e1 := Option.some.inj ei
            injection e1
          subst e0
          have e2 : ws.toList.length = 0 := by simpa using SeqAt.ReadsAll.length _ _ _ h4
          have e3 : ws[0]? = none := by
            have : ws.size = 0 := by simpa using e2
            simp [this]
          show some ws[0]? = some none
          rw [e3]
        | succ i => exact hf i ei
/-- tuples of which the first is empty can be sorted -/
theorem SortsAt.tups0 {vs : List Value} {ds : List PyData} (e : EachIs (fun v d => ∃ as, Reads s.heap v d as) vs ds) (hal : AllAlike ds) (hk : ∀ d ∈ ds, ∃ xs, d = .tuple xs) (h0 : ds[0]? = some (.tuple [])) (hu : ∀ d, d ∈ ds → A.units + d.depth < cLine) :
    SortsAt prog w A s (dataKind s.heap ds) vs := by
  have room : ∀ {d d' : PyData}, d ∈ ds → A.units + min d.depth d'.depth < cLine := fun {d d'} hd => Nat.lt_of_le_of_lt (Nat.add_le_add_left (Nat.min_le_left _ _) _) (hu d hd)
  refine ⟨fun v hv => ?_, oneType', ?_, fun h2 E Q hq => ?_⟩
  · obtain ⟨d, hd, as, r⟩ := e.left v hv
    exact ⟨_, dataKind_some hal hd r⟩
  · intro E x y a b Q ha hb hq
    obtain ⟨d, as, hd, ra, rfl⟩ := dataKind_inv ha
    obtain ⟨d', as', hd', rb, rfl⟩ := dataKind_inv hb
    have hdd := hal d hd d' hd'
    obtain ⟨xs, rfl⟩ := hk d hd
    obtain ⟨ys, rfl⟩ := hk d' hd'
    rw [keyLt'_oneType]
    exact oneLt_tups ra rb (by simpa [alike] using hdd) (room hd) hq
  · rw [kat_kind_eq, List.mapM_toArray, map_eq_pure_bind]
    refine wpAny_bind (wpAny_bind (firsts_run vs ds e hk fun fs hl hf => wpAny_pure ?_))
    have hf0 : fs[0]? = some none := hf 0 h0
    have hall : ¬ ((fs.toArray.all fun x => x.isSome) = true) := by
      intro q
      have q' : (fs.all fun x => x.isSome) = true := by simpa using q
      have := List.all_eq_true.mp q' none (List.mem_of_getElem? hf0)
      cases this
    rw [if_neg hall]
    have hnone : ¬ ((fs.toArray[0]?.bind id).isSome = true) := by
      have : fs.toArray[0]? = some none := by simpa using hf0
      rw [this]
      simp
    rw [if_neg hnone, oneTypeOnly'_eq, List.mapM_toArray, map_eq_pure_bind]
    refine wpAny_bind (wpAny_bind (wpAny_bind (kas_mapM (r := Value.type "tuple") _ (fun v hv Q' hq => ?_) (wpAny_pure ?_))))
    · obtain ⟨d, hd, as, r⟩ := e.left v hv
      obtain ⟨xs, rfl⟩ := hk d hd
      exact (looks_reads r).here hq
    · obtain ⟨v₁, vr, rfl⟩ : ∃ v₁ vr, vs = v₁ :: vr := by
        match vs, h2 with
        | v₁ :: vr, _ => exact ⟨v₁, vr, rfl⟩
      have hall2 : ((List.map (fun _ => Value.type "tuple") (v₁ :: vr)).toArray.all fun x => x == Value.type "tuple") = true := by
        simp only [List.all_toArray, List.all_map, List.all_eq_true]
        intro _ _
        exact beq_self_eq_true _
      have h01 : (List.map (fun _ => Value.type "tuple") (v₁ :: vr)).toArray[0]? = some (Value.type "tuple") := by simp
      rw [h01]
      simp only [hall2, if_true]
      exact wpAny_pure (wpAny_pure hq)
end
section
variable {X : Cx} {α : Type} [DecidableEq α] [DatumOrd α]
/-- the order by which sorted sorts -/
def leD (a b : α) : Bool := !DatumOrd.lt b a
def SrtOk (l : List α) : Prop := Sortable (l.map Datum.toD) ∨ ((∀ d ∈ l.map (Datum.toD : α → PyData), ∃ xs, d = .tuple xs) ∧ (l.map (Datum.toD : α → PyData))[0]? = some (.tuple []))
theorem sort_toD (l : List α) : (l.mergeSort (leD : α → α → Bool)).map (Datum.toD : α → PyData) = (l.map Datum.toD).mergeSort (dataLe false id) := by
  refine sort_maps Datum.toD fun a _ b _ => ?_
  show (!DatumOrd.lt b a) = !dataLt (Datum.toD b) (Datum.toD a)
  rw [DatumOrd.lt_eq]
theorem cr_sortedT (hd : Datum.depth α ≤ 60) (hu : X.A.units + 128 < cLine) : CallR X (.builtin "sorted") (fun vs H Q => ∃ (v : V) (l : List α), vs = [v] ∧ DD X.K H v l ∧ SrtOk l ∧
    ∀ zs p, H p = none → DDs X.K H zs (l.mergeSort leD) → Q (.ref p) (upd H p (.lst zs))) := by
  intro pins s σ H vs us Q I r h
  obtain ⟨v, l, rfl, hl, hk, q⟩ := h
  obtain ⟨a, ys, rfl, hs, hy⟩ := dd_lst hl
  obtain ⟨its, rv, hli, hz⟩ := I.list hs
  rw [Vals.ref1 r]
  have hlen : its.length = l.length := by rw [← rv.length, dds_length hy]
  have ev := each_of I hy rv
  have hal : AllAlike (l.map (Datum.toD : α → PyData)) := AllAlike.of fun a b => DatumOrd.alike a b
  let h2 := sortingHeap (copyHeap s.heap its) (s.heap.objs.size + 1) its
  have er : EachIs (fun v d => ∃ as, Reads h2 v d as) its (l.map (Datum.toD : α → PyData)) :=
    each_map (R := fun v d => ∃ as, Reads h2 v d as) Datum.toD (ev.mono fun _ _ q => ⟨_, PyProof.Rows.Reads.keeps (fun _ _ => sorting_copy_old) q.2.choose_spec⟩)
  have hun : ∀ d, d ∈ l.map (Datum.toD : α → PyData) → X.A.in1.in1.units + d.depth < cLine := by
    intro d hm
    obtain ⟨b, _, rfl⟩ := List.mem_map.mp hm
    have := Datum.depth_le b
    show X.A.units + 1 + 1 + _ < cLine
    omega
  have S : SortsAt X.prog X.w X.A.in1.in1 { s with heap := h2 } (dataKind h2 (l.map (Datum.toD : α → PyData))) its := by
    rcases hk with hk | ⟨hk, h0⟩
    · exact SortsAt.data (s := { s with heap := h2 }) er hal hk hun
    · exact SortsAt.tups0 (s := { s with heap := h2 }) er hal hk h0 hun
  refine sorted_vals hli.isList S (by rw [← rv.length]; exact hz) ?_
  have eo := sortVals_data (h' := h2) (R := fun u x => ∃ v, RelV v u ∧ DD X.K H v x) (enc := (Datum.toD : α → PyData)) false (ev.mono fun _ _ q => q.1) (ev.mono fun _ _ q => ⟨_, PyProof.Rows.Reads.keeps (fun _ _ => sorting_copy_old) q.2.choose_spec⟩) hal
  have ee : l.mergeSort (dataLe false (Datum.toD : α → PyData)) = l.mergeSort leD := sort_congr fun a _ b _ => by
    show (!dataLt (Datum.toD b) (Datum.toD a)) = !DatumOrd.lt b a
    rw [DatumOrd.lt_eq]
  rw [ee] at eo
  obtain ⟨zs, z1, z2⟩ := of_each eo
  obtain ⟨ep, he'⟩ := PyProof.Rows.sortedAll_at s.heap its (sortVals (dataKind h2 (l.map (Datum.toD : α → PyData))) false its its).toArray
  have hzl : zs.length ≤ sizeLine := by
    rw [dds_length z2, List.length_mergeSort, ← hlen, ← rv.length]
    exact hz
  exact ⟨.ref _, upd H (s.heap.objs.size + 1) (.lst zs), I.laid (t' := s.toks) (fun _ _ => PyProof.Rows.sortedAll_old) (Nat.le_succ _) ⟨hzl, _, ep, z1, he'⟩, rfl, q _ _ (I.hok.fresh (Nat.le_succ _)) z2⟩
end

/-! ### enumerate(tuple) -/
section
theorem meets_enumerate_newT (l : Addr) (items : Array Value) (n : Nat) (dct : Option Addr) (sl : Array (Option Value)) :
    Meets (Builtin.«enumerate.__new__» ⟨[.type "enumerate", .ref l], []⟩) (fun _ R s => s.heap.get? l = some { cls := .type "tuple", dict := dct, data := .seq items n, slots := sl } ∧
      R (.ok (.ret (.ref (s.heap.push { cls := .type "tuple_iterator", data := .fields #[.ref l, .int 0 0] }).objs.size)))
        { s with heap := (s.heap.push { cls := .type "tuple_iterator", data := .fields #[.ref l, .int 0 0] }).push { cls := .type "enumerate", data := .fields #[.none, .bool false, .ref s.heap.objs.size, rawInt 0, .none, .none] } }) :=
  .of_wp fun prog w A R s h => by
    obtain ⟨hp, g, d, tk, os⟩ := s; obtain ⟨hl, h⟩ := h
    have hsub := sub_enumerate
    have hL : Heap.IsTuple (Shared.heap ⟨hp, g, d, tk, os⟩) l items := ⟨_, hl, rfl, n, rfl⟩
    wp_walk using AutoSeq1.wpAny_loadPart' hl
    refine wpAny_stack_any fun st => wpAny_pure ?_
    split
    · rename_i c _ _ _ _ _
      cases (c == Value.type "enumerate")
      · wp_walk using AutoSeq1.wpAny_loadPart' hl, wpAny_pyIter_tuple hL
        exact ⟨_, rfl, h⟩
      · wp_walk using AutoSeq1.wpAny_loadPart' hl, wpAny_pyIter_tuple hL
        exact ⟨_, rfl, h⟩
    · wp_walk using AutoSeq1.wpAny_loadPart' hl, wpAny_pyIter_tuple hL
      exact ⟨_, rfl, h⟩
theorem call_enumerate_tuple {prog : Program} {w : World} {A : Around} {E : Value → Shared → Prop} {s : Shared} {l : Addr} {items : Array Value} {Q : Value → Shared → Prop} (hL : s.heap.IsTuple l items)
    (h : ∀ h', IsEnum h' (s.heap.objs.size + 1) s.heap.objs.size 0 .none → h'.IsTupleIter s.heap.objs.size l 0 → h'.objs.size = s.heap.objs.size + 2 →
      (∀ b o, s.heap.get? b = some o → h'.get? b = some o) → Q (.ref (s.heap.objs.size + 1)) { s with heap := h' }) :
    wpAny (model prog w) A (call (.type "enumerate") [.ref l]) Q E s := by
  obtain ⟨⟨c, dct, dt, sl⟩, hl, hc, n, hd⟩ := hL
  replace hc : c = .type "tuple" := hc
  replace hd : dt = .seq items n := hd
  subst hc hd
  refine callType_new F.called_enumerate (by decide) (F.typeCall_enumerate_1 _) (F.newCall_enumerate_1 _) (fun obj => F.args_object_init_2 obj _) F.entry_enumerate_new
    (meets_enumerate_newT l items n dct sl) ⟨hl, ?_⟩
  have hz : (s.heap.push { cls := .type "tuple_iterator", data := .fields #[.ref l, .int 0 0] }).objs.size = s.heap.objs.size + 1 := Heap.size_push ..
  show _ ∧ _
  rw [hz]
  have he : IsEnum ((s.heap.push { cls := .type "tuple_iterator", data := .fields #[.ref l, .int 0 0] }).push
      { cls := .type "enumerate", data := .fields #[.none, .bool false, .ref s.heap.objs.size, rawInt 0, .none, .none] }) (s.heap.objs.size + 1) s.heap.objs.size 0 .none := by
    have := Heap.get?_push_size (s.heap.push { cls := .type "tuple_iterator", data := .fields #[.ref l, .int 0 0] })
      (o := { cls := .type "enumerate", data := .fields #[.none, .bool false, .ref s.heap.objs.size, rawInt 0, .none, .none] }) rfl
    rw [hz] at this; exact this
  refine ⟨⟨_, he, rfl⟩, h _ he ⟨_, Heap.get?_push_of_some _ (Heap.get?_push_size _ rfl), rfl, rfl⟩ (by rw [Heap.size_push, hz]) fun b o x => Heap.get?_push_of_some _ (Heap.get?_push_of_some _ x)⟩
/-- the tuple at a, each item in a new pair -/
def IteT (K : PySem.W.Frag) (a : Addr) : It :=
  ⟨fun i H => ∃ (xs : List V) (x : V), SqT K H a xs ∧ xs[i]? = some x, fun i H v H' => ∃ T x, v = .ref T ∧ H T = none ∧ H' = upd H T (.tup [.int (i : Nat), x]) ∧ ∀ xs, SqT K H a xs → xs[i]? = some x, fun i H => ∃ xs : List V, SqT K H a xs ∧ xs.length ≤ i⟩
theorem turn_enumT {P : Program} {w : World} {K : PySem.W.Frag} {elts : List Expr} {kk : Nat} {tpos : Pos} (a e it : Addr) :
    Turn P w K (.Tuple elts kk tpos) (IteT K a) [e, it] e (fun i h => (∃ old, IsEnum h e it ((i : Nat) : Int) old) ∧ h.IsTupleIter it a i ∧ e ≠ it) where
  mem := by simp
  obj := fun i h st b hb => by
    obtain ⟨⟨old, he⟩, ⟨o, ho, hc, hd⟩, _⟩ := st
    have e' : b = e ∨ b = it := by simpa using hb
    rcases e' with z | z
    · rw [z]; exact ⟨_, he, fun v q => nomatch q⟩
    · rw [z]; exact ⟨o, ho, fun v q => by rw [hd] at q; cases q⟩
  keep := fun i h h' st k => let ⟨⟨old, he⟩, hi, hne⟩ := st; ⟨⟨old, k e (by simp) _ he⟩, hi.at fun o q => k it (by simp) o q, hne⟩
  item := by
    intro X hP hw hK hc i pins s σ H E I hf st hg
    subst hP hw hK
    obtain ⟨⟨old, he⟩, hit, hne⟩ := st
    obtain ⟨xs, x, hq, hx⟩ := hg
    obtain ⟨its, rv, p, hz⟩ := I.tuple hq
    obtain ⟨u, hu, ru⟩ := rv.get hx
    have hil0 : i < its.length := (List.getElem?_eq_some_iff.mp hu).1
    have hel : e < s.heap.objs.size := Heap.lt_size he
    have hil : it < s.heap.objs.size := by obtain ⟨_, q, _⟩ := hit; exact Heap.lt_size q
    have hait : a ≠ it := by
      intro z
      obtain ⟨o1, e1, c1, _⟩ := id p
      obtain ⟨o2, e2, c2, _⟩ := id hit
      rw [z, e2] at e1
      cases e1
      rw [c2] at c1
      injection c1 with c1
      exact absurd c1 (by decide)
    have hae : a ≠ e := by
      intro z
      obtain ⟨o1, e1, c1, _⟩ := id p
      rw [z] at e1
      have he' : s.heap.get? e = _ := he
      rw [he'] at e1
      cases e1
      injection c1 with c1
      exact absurd c1 (by decide)
    have D := Draws.tuple (prog := X.prog) (w := X.w) (A := X.A.in1) (show X.A.in1.handled = none from I.ok.hd hc) it a hait its.toArray
    refine wpAny_pyNext_enum_itemD (n := its.toArray.size) D he ⟨hit, p⟩ (by simpa using hil0) hne (by simp [hne, Ne.symm hae]) fun x' h' tk hP ho hs' hT hsz hk => ?_
    have ex : x' = u := by
      have hP' : its.toArray[i]? = some x' := hP
      have hu' : its.toArray[i]? = some u := by simpa using hu
      exact Option.some.inj (hP'.symm.trans hu')
    subst ex
    refine ⟨_, rfl, wpAny_letOwnedTupleGo_enum (s := { s with heap := h', toks := tk + 1 }) ho fun h'' he' sb => ?_⟩
    have hT2 : h''.get? s.heap.objs.size = some { cls := .type "tuple", data := .seq #[.int i tk, x'] } := (sb.2 _ (Nat.ne_of_gt hel)).trans hT
    have new : ObjOk X.prog X.w (upd H s.heap.objs.size (.tup [.int (i : Nat), x])) h'' s.heap.objs.size (.tup [.int (i : Nat), x]) :=
      ⟨by show 2 ≤ sizeLine; decide, [.int i tk, x'], .cons ⟨_, rfl⟩ (.cons ru .nil), ⟨_, hT2, rfl, _, rfl⟩⟩
    have I1 : Inv X pins σ (upd H s.heap.objs.size (.tup [.int (i : Nat), x])) { s with heap := h'', toks := tk + 1 } :=
      I.turnedNew (ch := [e, it]) (fun b ob hb q => (sb.2 b (fun z => hb (by simp [z]))).trans (hk b ob (fun z => hb (by simp [z])) (fun z => hb (by simp [z])) q)) hf (Nat.le_refl _) new
    refine ⟨.ref s.heap.objs.size, _, I1, rfl, ⟨_, x, rfl, I.hok.fresh (Nat.le_refl _), rfl, fun ys hy => by rw [I.tuple_inj hy hq]; exact hx⟩, ⟨⟨x', ?_⟩, hs'.1.at fun o q => (sb.2 it (Ne.symm hne)).trans q, hne⟩, fun b hb => ?_⟩
    · have e1 : ((i + 1 : Nat) : Int) = (i : Int) + 1 := by omega
      rw [e1]; exact he'
    · have hb' : b < s.heap.objs.size := by
        have e' : b = e ∨ b = it := by simpa using hb
        rcases e' with z | z
        · rw [z]; exact hel
        · rw [z]; exact hil
      rw [upd_ne (Nat.ne_of_lt hb')]
      exact (hf b hb).1
  done := by
    intro X hP hw hK hc i pins s σ H E I hf st hg
    subst hP hw hK
    obtain ⟨⟨old, he⟩, hit, hne⟩ := st
    obtain ⟨xs, hq, hx⟩ := hg
    obtain ⟨its, rv, p, hz⟩ := I.tuple hq
    obtain ⟨f0, f1, f2, f3, f4, f5⟩ := hf it (by simp)
    have hl := rv.length
    have hT : s.TypeIs (.ref e) "enumerate" := ⟨_, he, rfl⟩
    unfold pyNext
    refine wpAny_bind (wpAny_attempt (wpAny_callSpecial?_slot (name := Str.ofString "__next__") hT F.slot_enumerate_next
      (wpAny_call_entry F.slot_enumerate_next hT F.entry_enumerate_next ?_ (F.args_enumerate_next_1 _))))
    show wpAny _ _ (field (.ref e) 2 >>= _) _ _ _
    refine wpAny_bind (wpAny_field he rfl (x := .ref it) rfl ?_)
    refine wpAny_bind (wpAny_nextOf_tuple_end (show X.A.in1.handled = none from I.ok.hd hc) hit (show s.heap.IsTuple a its.toArray from p) (by simp; omega) fun h' x he' hx' => ?_)
    obtain ⟨o, ho, hc'⟩ := hx'
    refine wpAny_bind (wpAny_isInstance (T := "StopIteration") (b := true) ⟨o, ho, hc'⟩ isSubtype_stop ?_)
    exact wpAny_pure ⟨rfl, I.turned (t' := s.toks) (fun b o hb q => he' b o hb q) f0 f1 f3 f4 f5⟩
  self := fun A i s Q E st h => let ⟨⟨_, he⟩, _⟩ := st; wpAny_pyIter_enum he h
def iEnumT (K : PySem.W.Frag) (ta : TA) : TI := fun σ H R => ta σ H fun vs H1 => ∃ a xs, vs = [.ref a] ∧ SqT K H1 a xs ∧ R (IteT K a) H1
theorem pi_enumT {X : Cx} {e : Expr} {ta : TA} {p pos tpos : Pos} {elts : List Expr} {kk : Nat} (hg : Gl X "enumerate") (hm : X.mg "enumerate" = none) (ha : PA X [e] ta) (hs : starEach [e] X.env = [(false, eval e X.env)] := by rfl) :
    PI X (.Tuple elts kk tpos) (.Call (.Name "enumerate" p) [e] [] pos) (iEnumT X.K ta) := by
  refine ⟨fun pins s σ H R I h => ?_⟩
  refine Call_ (ld_blt I hg hm PyProof.Rows.boot_enumerate (PyProof.Rows.callWith_type1 (thn (ha.run pos pins s σ H _ I h) fun us s1 ⟨vs, H1, I1, r1, q1⟩ => ?_) hs rfl))
  obtain ⟨a, xs, ex, hq, q⟩ := q1
  subst ex
  cases r1 with
  | cons r rr =>
    cases rr
    cases r
    obtain ⟨its, rv, p', hz⟩ := I1.tuple hq
    refine call_enumerate_tuple p' fun h' he hit hsz hk => wpAny_pyIter_enum he ?_
    have I2 : Inv X pins σ H1 { s1 with heap := h' } := I1.kept (t' := s1.toks) hk
    refine ⟨s1.heap.objs.size + 1, [s1.heap.objs.size + 1, s1.heap.objs.size], _, _, H1, rfl, I2, turn_enumT a (s1.heap.objs.size + 1) s1.heap.objs.size, ⟨⟨.none, he⟩, hit, Nat.succ_ne_self _⟩, fun b hb => ?_, q⟩
    have e' : b = s1.heap.objs.size + 1 ∨ b = s1.heap.objs.size := by simpa using hb
    have hle : s1.heap.objs.size ≤ b := by
      rcases e' with z | z
      · rw [z]; exact Nat.le_add_right _ _
      · rw [z]; exact Nat.le_refl _
    exact I1.fpOk hle (I1.hok.fresh hle)
theorem walk_enumT {K : PySem.W.Frag} {a : Addr} {xs : List V} : Walk (IteT K a) xs.length (fun H => SqT K H a xs) (YPair (fun i => some (.int (i : Nat))) (fun i => xs[i]?)) := by
  refine ⟨fun i _ hi q => ⟨xs, xs[i], q, by simp [hi]⟩, fun _ q => ⟨xs, q, Nat.le_refl _⟩, fun i H v H' _ q y => ?_⟩
  obtain ⟨T, x, h1, h2, h3, h4⟩ := y
  exact ⟨T, .int (i : Nat), x, h1, h2, h3, rfl, h4 xs q⟩
end
end GF
set_option Elab.async false
set_option linter.all false
set_option maxRecDepth 100000
set_option maxHeartbeats 4000000
/-! sum(l, start=[]) of a list of lists -/
namespace GF
open PySem PySem.Spec PySem.W PyProof.Rows L2
theorem args_sum_start (a v : Value) : argsOk "sum" ⟨[a], [(Str.ofString "start", v)]⟩ := by unfold argsOk; kernel_rfl
theorem sub_list_str' : isSubtype (.type "list") (.type "str") = pure false := by rw [isSubtype_type]; kernel_rfl
theorem sub_list_bytes' : isSubtype (.type "list") (.type "bytes") = pure false := by rw [isSubtype_type]; kernel_rfl
theorem sub_list_bytearray' : isSubtype (.type "list") (.type "bytearray") = pure false := by rw [isSubtype_type]; kernel_rfl
theorem add_lists' {prog : Program} {w : World} {A : Around} {E : Value → Shared → Prop} {s : Shared} {l b : Addr} {vs ws : List Value} {Q : Value → Shared → Prop} (hl : s.heap.IsList l vs.toArray) (hb : s.heap.IsList b ws.toArray)
    (h : Q (.ref s.heap.objs.size) { s with heap := s.heap.push { cls := .type "list", data := .seq (vs ++ ws).toArray } })
    (hsz : vs.length + ws.length ≤ sizeLine) : wpAny (model prog w) A (binaryOp .Add (.ref l) (.ref b)) Q E s := by
  obtain ⟨⟨cls, dd, data, sl⟩, ho, hc, n, hd⟩ := id hl
  obtain ⟨⟨cls2, dd2, data2, sl2⟩, ho2, hc2, n2, hd2⟩ := id hb
  simp only at hc hd hc2 hd2
  subst hc hd hc2 hd2
  have e : vs.toArray ++ ws.toArray = (vs ++ ws).toArray := by simp
  refine concat_meets ⟨_, ho, rfl⟩ ⟨_, ho2, rfl⟩ noFill_list_add seq_list_add PySem.F.slot_list_add PySem.F.entry_list_add (PySem.F.args_list_add_2 _ _) (list_addW l b vs.toArray ws.toArray n n2 dd dd2 sl sl2 (by simpa using hsz)) ⟨ho, ho2, ?_⟩
  rw [e]
  exact h
/-- the first i together -/
def preCat (vss : Nat → List Value) : Nat → List Value
  | 0 => []
  | i + 1 => preCat vss i ++ vss i
section
variable {prog : Program} {w : World} {A : Around} {R : Result → Shared → Prop} {I l S : Addr} {its : Array Value} {vss : Nat → List Value} {h0 : Heap}
theorem codeAny_sum_lists (hh : A.in1.handled = none) (hlI : l ≠ I) (hv : ∀ i v, its[i]? = some v → ∃ a, v = .ref a ∧ h0.IsList a (vss i).toArray) (hz : ∀ i, i ≤ its.size → (preCat vss i).length ≤ sizeLine)
    (hI0 : h0.get? I = none) (hS0 : h0.get? S = none) (hSI : S ≠ I) (hSl : S ≠ l) (hSz : h0.objs.size ≤ S) :
    ∀ (k i : Nat) (s : Shared) (t : Addr) (e c : Nat), its.size - i = k → i ≤ its.size → s.heap.IsListIter I l i → s.heap.IsList l its → (∀ b o, h0.get? b = some o → s.heap.get? b = some o) → t ≠ S → t ≠ I → (0 < i → h0.objs.size ≤ t) →
    s.heap.get? t = some (seqObj "list" (preCat vss i).toArray e) →
    s.heap.get? S = some { cls := .type "list", dict := none, data := .seq #[.ref t] c, slots := #[] } →
    (∀ h' tk t' e', (∀ b o, h0.get? b = some o → h'.get? b = some o) → h'.get? t' = some (seqObj "list" (preCat vss its.size).toArray e') → (0 < its.size → h0.objs.size ≤ t') → R (.ok (.ret (.ref t'))) { s with heap := h', toks := tk }) →
    codeAny (model prog w) A (.builtin "sum.loop" ⟨[.ref I, .ref S, rawInt 2, rawInt 0], []⟩) R s := by
  have W := Walks.list (prog := prog) (w := w) (A := A.in1) hh I l hlI its
  intro k
  induction k with
  | zero =>
    intro i s t e c hk hi hit hl hkeep htS htI htn ht hS hR
    have hin : i = its.size := by omega
    subst hin
    refine codeAny_builtin F.entry_sum_loop ?_
    rw [Around.under_plainId F.plain_sum_loop _]
    show wpAny _ A.in1 (seqItems? (.ref S) >>= _) _ _ s
    refine wpAny_bind (wpAny_seqItems hS rfl ?_)
    show wpAny _ A.in1 (tryCatch (pyNext (.ref I)) _ >>= _) _ _ s
    refine wpAny_bind (wpAny_tryCatch (W.done s _ _ ⟨hit, hl⟩ fun h' tk hk' => ?_))
    exact wpAny_pure (hR h' tk t e (fun b o eb => hk' b o (by simp; rintro rfl; rw [hI0] at eb; cases eb) (hkeep b o eb)) (hk' t _ (by simpa using htI) ht) htn)
  | succ k ih =>
    intro i s t e c hk hi hit hl hkeep htS htI htn ht hS hR
    have hlt : i < its.size := by omega
    refine codeAny_builtin F.entry_sum_loop ?_
    rw [Around.under_plainId F.plain_sum_loop _]
    show wpAny _ A.in1 (seqItems? (.ref S) >>= _) _ _ s
    refine wpAny_bind (wpAny_seqItems hS rfl ?_)
    show wpAny _ A.in1 (tryCatch (pyNext (.ref I)) _ >>= _) _ _ s
    refine wpAny_bind (wpAny_tryCatch (W.item i s _ _ hlt ⟨hit, hl⟩ fun v h' tk hP hst' hk' => ?_))
    obtain ⟨a, rfl, ha⟩ := hv i v hP
    have hS' := hk' S _ (by simpa using hSI) hS
    have ht' := hk' t _ (by simpa using htI) ht
    have hkeep' : ∀ b o, h0.get? b = some o → h'.get? b = some o := fun b o eb => hk' b o (by simp; rintro rfl; rw [hI0] at eb; cases eb) (hkeep b o eb)
    have ha' := ha.at fun o eo => hkeep' a o eo
    have hI' : ∃ o, h'.get? I = some o := by obtain ⟨o, ho, _⟩ := hst'.1; exact ⟨o, ho⟩
    show wpAny _ A.in1 ((holding [Value.ref a] (binaryOp .Add (.ref t) (.ref a))).attempt >>= _) _ _ _
    refine wpAny_bind (wpAny_attempt (wpAny_holding (add_lists' ⟨_, ht', rfl, _, rfl⟩ ha' ?_ ?_)))
    · have hnS : S < h'.objs.size := Heap.lt_size hS'
      have hp : (h'.push { cls := .type "list", data := .seq ((preCat vss i ++ vss i).toArray) }).get? S = _ := Heap.get?_push_of_some _ hS'
      show wpAny _ A.in1 (updateSeq S (fun _ => #[.ref h'.objs.size]) >>= _) _ _ _
      refine wpAny_bind ?_
      refine wpAny_updateSeq hp rfl ?_
      have hS2 := Heap.get?_update_self (Obj.mapSeq fun _ => #[Value.ref h'.objs.size]) hp rfl
      refine wpAny_bind (wpAny_letGo ?_)
      refine wpAny_bind ?_
      have up : ∀ b o, b ≠ S → h'.get? b = some o → (((h'.push { cls := .type "list", data := .seq ((preCat vss i ++ vss i).toArray) }).update S (Obj.mapSeq fun _ => #[Value.ref h'.objs.size])).update S (Obj.mapSeq fun _ => #[Value.ref h'.objs.size])).get? b = some o := fun b o hb eb =>
        (Heap.get?_update_other _ _ (Ne.symm hb)).trans ((Heap.get?_update_other _ _ (Ne.symm hb)).trans (Heap.get?_push_of_some _ eb))
      refine wpAny_updateSeq hS2 rfl (wpAny_pure ⟨plainId_quiet F.plain_sum_loop _, ih (i + 1) _ h'.objs.size 0 _ (by omega) hlt ?_ ?_ (fun b o eb => up b o (by rintro rfl; rw [hS0] at eb; cases eb) (hkeep' b o eb)) (Nat.ne_of_gt hnS) (by
        obtain ⟨o, ho⟩ := hI'
        exact Nat.ne_of_gt (Heap.lt_size ho)) (fun _ => ?_) ?_ (Heap.get?_update_self _ hS2 rfl) fun h'' tk'' t'' e'' k1 k2 k3 => hR h'' tk'' t'' e'' k1 k2 k3⟩)
      · exact hst'.1.at fun o eo => up I o (Ne.symm hSI) eo
      · exact hst'.2.at fun o eo => up l o (Ne.symm hSl) eo
      · exact Nat.le_of_lt (Nat.lt_of_le_of_lt hSz hnS)
      · have e2 : (h'.push { cls := .type "list", data := .seq ((preCat vss i ++ vss i).toArray) }).get? h'.objs.size = some (seqObj "list" (preCat vss (i + 1)).toArray 0) := by
          exact Heap.get?_push_size _ rfl
        exact (Heap.get?_update_other _ _ (Nat.ne_of_lt hnS)).trans ((Heap.get?_update_other _ _ (Nat.ne_of_lt hnS)).trans e2)
    · have := hz (i + 1) hlt
      simp only [preCat, List.length_append] at this
      simpa using this
end
section
variable {prog : Program} {w : World} {A : Around} {E : Value → Shared → Prop} {s : Shared}
theorem call_sum_lists {l z : Addr} {its : Array Value} {vss : Nat → List Value} {ez : Nat} {Q : Value → Shared → Prop} (hh : A.handled = none) (hl : s.heap.IsList l its) (hzs : s.heap.get? z = some (seqObj "list" #[] ez))
    (hv : ∀ i v, its[i]? = some v → ∃ a, v = .ref a ∧ s.heap.IsList a (vss i).toArray) (hz : ∀ i, i ≤ its.size → (preCat vss i).length ≤ sizeLine) (hn : 0 < its.size)
    (h : ∀ h' tk t e, (∀ b o, s.heap.get? b = some o → h'.get? b = some o) → h'.get? t = some (seqObj "list" (preCat vss its.size).toArray e) → s.heap.objs.size ≤ t → Q (.ref t) { s with heap := h', toks := tk }) :
    wpAny (model prog w) A (call (.builtin "sum") [.ref l] [(Str.ofString "start", .ref z)]) Q E s := by
  refine PyProof.Rows.kmk_tree F.kind_sum F.plain_sum F.entry_sum (args_sum_start _ _) ?_
  unfold Builtin.«sum»
  simp only [List.length_cons, List.length_nil]
  rw [if_neg (by decide)]
  refine wpAny_bind (wpAny_of_eq (show Builtin.Builtins.bindParams "sum" ["start"] 0 ⟨[], [(Str.ofString "start", .ref z)]⟩ = pure [some (.ref z)] from rfl) ?_)
  refine wpAny_bind (wpAny_pyIter_list hl ?_)
  refine wpAny_bind (wpAny_pure ?_)
  have hz1 : (s.heap.push { cls := .type "list_iterator", data := .fields #[.ref l, .int 0 0] }).get? z = some (seqObj "list" #[] ez) := Heap.get?_push_of_some _ hzs
  have ty : Shared.TypeIs { s with heap := s.heap.push { cls := .type "list_iterator", data := .fields #[.ref l, .int 0 0] } } (.ref z) "list" := ⟨_, hz1, rfl⟩
  simp only [List.forIn_cons, List.forIn_nil]
  refine wpAny_bind (wpAny_bind (wpAny_bind (wpAny_isInstance (T := "list") (b := false) ty sub_list_str' ?_)))
  simp only [Bool.false_eq_true, if_false]
  refine wpAny_pure (wpAny_bind (wpAny_bind (wpAny_isInstance (T := "list") (b := false) ty sub_list_bytes' ?_)))
  simp only [Bool.false_eq_true, if_false]
  refine wpAny_pure (wpAny_bind (wpAny_bind (wpAny_isInstance (T := "list") (b := false) ty sub_list_bytearray' ?_)))
  simp only [Bool.false_eq_true, if_false]
  refine wpAny_pure (wpAny_pure ?_)
  refine wpAny_bind (wpAny_newObj_type ?_)
  have hsz : (s.heap.push { cls := .type "list_iterator", data := .fields #[.ref l, .int 0 0] }).objs.size = s.heap.objs.size + 1 := Heap.size_push ..
  have hI0 : s.heap.get? s.heap.objs.size = none := Heap.get?_none_of_le (Nat.le_refl _)
  have hS0 : s.heap.get? (s.heap.objs.size + 1) = none := Heap.get?_none_of_le (Nat.le_succ _)
  have hll : l < s.heap.objs.size := by obtain ⟨o, ho, _⟩ := hl; exact Heap.lt_size ho
  have hzl : z < s.heap.objs.size := Heap.lt_size hzs
  refine wpAny_pure ⟨plainId_quiet F.plain_sum_loop _, ?_⟩
  show codeAny _ _ (.builtin "sum.loop" ⟨[.ref s.heap.objs.size, .ref (s.heap.push { cls := .type "list_iterator", data := .fields #[.ref l, .int 0 0] }).objs.size, rawInt 2, rawInt 0], []⟩) _ _
  have hI1 : (s.heap.push { cls := .type "list_iterator", data := .fields #[.ref l, .int 0 0] }).get? s.heap.objs.size = _ := Heap.get?_push_size _ rfl
  have hS1 := Heap.get?_push_size (s.heap.push { cls := .type "list_iterator", data := .fields #[.ref l, .int 0 0] }) (o := { cls := .type "list", data := .seq #[.ref z] }) rfl
  have kp : ∀ b o, s.heap.get? b = some o → ((s.heap.push { cls := .type "list_iterator", data := .fields #[.ref l, .int 0 0] }).push { cls := .type "list", data := .seq #[.ref z] }).get? b = some o := fun b o e => Heap.get?_push_of_some _ (Heap.get?_push_of_some _ e)
  refine codeAny_sum_lists (A := A) (h0 := s.heap) (I := s.heap.objs.size) (S := (s.heap.push { cls := .type "list_iterator", data := .fields #[.ref l, .int 0 0] }).objs.size) (l := l) (its := its) (vss := vss) hh (Nat.ne_of_lt hll) hv hz hI0 (by rw [hsz]; exact hS0) (by rw [hsz]; exact Nat.succ_ne_self _) (by rw [hsz]; exact Nat.ne_of_gt (Nat.lt_succ_of_lt hll)) (by rw [hsz]; exact Nat.le_succ _)
    its.size 0 _ z ez 0 rfl (Nat.zero_le _) ?_ ?_ kp (by rw [hsz]; exact Nat.ne_of_lt (Nat.lt_succ_of_lt hzl)) (Nat.ne_of_lt hzl) (fun q => absurd q (Nat.lt_irrefl _)) (kp z _ hzs) hS1 fun h' tk t e k1 k2 k3 => ?_
  · exact ⟨_, Heap.get?_push_of_some _ hI1, rfl, rfl⟩
  · exact hl.at fun o eo => kp l o eo
  · exact h h' tk t e k1 k2 (k3 hn)
end

section
variable {X : Cx} {α : Type} [DecidableEq α] [Datum α]
/-- l + m, lists -/
theorem op_addL : OpR X (binaryOp .Add) (fun x y H Q => ∃ l m : List α, DD X.K H x l ∧ DD X.K H y m ∧ l.length + m.length ≤ sizeLine ∧ ∀ zs p, H p = none → DDs X.K H zs (l ++ m) → Q (.ref p) (upd H p (.lst zs))) := by
  intro pins s σ H x y v u Q I rx ry h
  obtain ⟨l, m, hl, hm, hz, q⟩ := h
  obtain ⟨a, xs, rfl, h1, h2⟩ := dd_lst hl
  obtain ⟨b, ys, rfl, k1, k2⟩ := dd_lst hm
  cases rx
  cases ry
  obtain ⟨its, rv, hli, _⟩ := I.list h1
  obtain ⟨its2, rv2, hli2, _⟩ := I.list k1
  have e1 := rv.length
  have e2 := rv2.length
  have f1 := dds_length h2
  have f2 := dds_length k2
  refine add_lists' hli.isList hli2.isList ?_ (by omega)
  exact ⟨.ref _, _, I.lnew (t' := s.toks) (rv.append rv2) (by rw [List.length_append]; omega), rfl, q _ _ I.fresh (dds_append h2 k2)⟩
/-- sum(ls, start=[]) -/
theorem cr_sumL (hc : X.calm = true) : CallRK X (.builtin "sum") [Str.ofString "start"] (fun vs zs H Q => ∃ (v : V) (z : Addr) (ls : List (List α)), vs = [v] ∧ zs = [.ref z] ∧ H z = some (.lst []) ∧ DD X.K H v ls ∧ ls ≠ [] ∧ ls.flatten.length ≤ sizeLine ∧
    ∀ ws p, H p = none → DDs X.K H ws ls.flatten → Q (.ref p) (upd H p (.lst ws))) := by
  intro pins s σ H vs zs us ws Q I r rz h
  obtain ⟨v, z, ls, rfl, rfl, hz, hls, hne, hsz, q⟩ := h
  obtain ⟨a, xs, rfl, h1, h2⟩ := dd_lst hls
  rw [Vals.ref1 r]
  obtain ⟨w1, rfl, e1⟩ := vals1 rz
  cases e1
  obtain ⟨its, rv, hli, _⟩ := I.list h1
  obtain ⟨_, itz, n, rz0, _, ez⟩ := I.lstM hz
  cases rz0
  have hlen : its.length = ls.length := by rw [← rv.length, dds_length h2]
  -- the values of each inner list
  have inner : ∀ i : Nat, ∃ (xi : List V) (vi : List Value), (∀ (u : Value), its[i]? = some u → ∃ b, u = .ref b ∧ s.heap.IsList b vi.toArray) ∧ (i < ls.length → Vals xi vi ∧ DDs X.K H xi (ls.getD i [])) := by
    intro i
    by_cases hi : i < ls.length
    · obtain ⟨x, hx, hd⟩ := dds_get h2 (i := i) (x := ls[i]) (by simp [hi])
      obtain ⟨b, ys, rfl, k1, k2⟩ := dd_lst hd
      obtain ⟨it, rvi, hlii, _⟩ := I.list k1
      obtain ⟨u, hu, ru⟩ := rv.get hx
      cases ru
      refine ⟨ys, it, fun u' hu' => ?_, fun _ => ⟨rvi, ?_⟩⟩
      · rw [hu] at hu'
        cases hu'
        exact ⟨b, rfl, hlii.isList⟩
      · have : ls.getD i [] = ls[i] := by simp [List.getD, hi]
        rw [this]
        exact k2
    · refine ⟨[], [], fun u' hu' => ?_, fun q => absurd q hi⟩
      have := (List.getElem?_eq_some_iff.mp hu').1
      omega
  let vss : Nat → List Value := fun i => (inner i).choose_spec.choose
  let xss : Nat → List V := fun i => (inner i).choose
  have sp1 : ∀ i u, its[i]? = some u → ∃ b, u = .ref b ∧ s.heap.IsList b (vss i).toArray := fun i => (inner i).choose_spec.choose_spec.1
  have sp2 : ∀ i, i < ls.length → Vals (xss i) (vss i) ∧ DDs X.K H (xss i) (ls.getD i []) := fun i => (inner i).choose_spec.choose_spec.2
  have pre : ∀ i, i ≤ ls.length → ∃ ys, Vals ys (preCat vss i) ∧ DDs X.K H ys (ls.take i).flatten := by
    intro i
    induction i with
    | zero => exact fun _ => ⟨[], .nil, .nil⟩
    | succ i ih =>
      intro hi
      obtain ⟨ys, y1, y2⟩ := ih (by omega)
      obtain ⟨z1, z2⟩ := sp2 i (by omega)
      refine ⟨ys ++ xss i, y1.append z1, ?_⟩
      have e : ls.take (i + 1) = ls.take i ++ [ls.getD i []] := by
        rw [List.take_add_one, List.getElem?_eq_getElem (show i < ls.length by omega)]
        simp [List.getD, show i < ls.length by omega]
      have e2 : (ls.take (i + 1)).flatten = (ls.take i).flatten ++ ls.getD i [] := by
        rw [e, List.flatten_append]
        simp
      rw [e2]
      exact dds_append y2 z2
  have lenp : ∀ i, i ≤ ls.length → (preCat vss i).length ≤ sizeLine := by
    intro i hi
    obtain ⟨ys, y1, y2⟩ := pre i hi
    rw [← y1.length, dds_length y2]
    refine Nat.le_trans ?_ hsz
    conv => rhs; rw [← List.take_append_drop i ls, List.flatten_append, List.length_append]
    omega
  show wpAny _ _ (call (.builtin "sum") [.ref a] [(Str.ofString "start", .ref z)]) _ _ _
  refine call_sum_lists (vss := vss) (I.ok.hd hc) hli.isList ez (fun i u hu => sp1 i u (by simpa using hu)) (fun i hi => lenp i (by simp at hi; omega)) (by
    have : ls.length ≠ 0 := fun e => hne (List.eq_nil_of_length_eq_zero e)
    simp; omega) fun h' tk t e kp ht hge => ?_
  obtain ⟨ys, y1, y2⟩ := pre ls.length (Nat.le_refl _)
  rw [List.take_length] at y2
  have es : its.toArray.size = ls.length := by simp [hlen]
  rw [es] at ht
  exact ⟨.ref t, upd H t (.lst ys), I.laid (t' := tk) kp hge ⟨by rw [y1.length]; exact lenp _ (Nat.le_refl _), _, e, y1, ht⟩, rfl, q _ _ (I.hok.fresh hge) y2⟩
end
end GF
set_option Elab.async false
set_option linter.all false
set_option maxRecDepth 100000
set_option maxHeartbeats 4000000
/-! what an expression comes to, by data with a Lean type -/
namespace GF
open PySem PySem.Spec PySem.W PyProof.Rows L2

/-! ### the weakest readings -/
section
variable {X : Cx}
def RE (X : Cx) (e : Expr) : TE := fun σ H Q => ∀ pins s, Inv X pins σ H s → wpAny (model X.prog X.w) X.A (eval e X.env) (EP X pins σ Q) X.xe s
theorem pe_re {e : Expr} : PE X e (RE X e) := ⟨fun pins s σ H Q I h => h pins s I⟩
theorem re_of {e : Expr} {t : TE} (h : PE X e t) {σ : L2.St} {H : Hp} {Q : VK} (q : t σ H Q) : RE X e σ H Q := fun pins s I => h.run pins s σ H Q I q
def RT (X : Cx) (e : Expr) : TT := fun σ H Q => ∀ pins s, Inv X pins σ H s → wpAny (model X.prog X.w) X.A (isTrue e X.env (eval e X.env)) (TP X pins σ Q) X.xe s
theorem pt_rt {e : Expr} : PT X e (RT X e) := ⟨fun pins s σ H Q I h => h pins s I⟩
theorem rt_of {e : Expr} {t : TT} (h : PT X e t) {σ : L2.St} {H : Hp} {Q : Bool → Hp → Prop} (q : t σ H Q) : RT X e σ H Q := fun pins s I => h.run pins s σ H Q I q
def RW (X : Cx) (e : Expr) : TT := fun σ H Q => ∀ whole pins s, Inv X pins σ H s → wpAny (model X.prog X.w) X.A (isTrue e X.env whole) (TP X pins σ Q) X.xe s
theorem pw_rw {e : Expr} : PW X e (RW X e) := ⟨fun wh pins s σ H Q I h => h wh pins s I⟩
theorem rw_of {e : Expr} {t : TT} (h : PW X e t) {σ : L2.St} {H : Hp} {Q : Bool → Hp → Prop} (q : t σ H Q) : RW X e σ H Q := fun wh pins s I => h.run wh pins s σ H Q I q
def RA (X : Cx) (es : List Expr) : TA := fun σ H Q => ∀ pos pins s, Inv X pins σ H s → wpAny (model X.prog X.w) X.A (spliced (backTo pos (starEach es X.env))) (AP X pins σ Q) X.xe s
theorem pa_ra {es : List Expr} : PA X es (RA X es) := ⟨fun pos pins s σ H Q I h => h pos pins s I⟩
theorem ra_of {es : List Expr} {t : TA} (h : PA X es t) {σ : L2.St} {H : Hp} {Q : List V → Hp → Prop} (q : t σ H Q) : RA X es σ H Q := fun pos pins s I => h.run pos pins s σ H Q I q
def RC (X : Cx) (op : CmpOp) (a b : Expr) : TE := fun σ H Q => ∀ pins s, Inv X pins σ H s →
    wpAny (model X.prog X.w) X.A (eval a X.env) (fun v s₁ => wpAny (model X.prog X.w) X.A (eval b X.env) (fun u s₂ => wpAny (model X.prog X.w) X.A (compareOp op v u) (EP X pins σ Q) X.xe s₂) X.xe s₁) X.xe s
theorem pc_rc {op : CmpOp} {a b : Expr} : PC X op a b (RC X op a b) := ⟨fun pins s σ H Q I h => h pins s I⟩
def RS (X : Cx) (st : Stmt) : TS := fun D σ H => ∀ pins s, Inv X pins σ H s → wpAny (model X.prog X.w) X.A (exec st X.env) (SP X pins D) X.xe s
theorem ps_rs {st : Stmt} : PS X st (RS X st) := ⟨fun pins s σ H D I h => h pins s I⟩
theorem rs_of {st : Stmt} {t : TS} (h : PS X st t) {D : Ends} {σ : L2.St} {H : Hp} (q : t D σ H) : RS X st D σ H := fun pins s I => h.run pins s σ H D I q
def RB (X : Cx) (sts : List Stmt) : TS := fun D σ H => ∀ pins s, Inv X pins σ H s → wpAny (model X.prog X.w) X.A (execs sts X.env) (SP X pins D) X.xe s
theorem pss_rb {sts : List Stmt} : PSs X sts (RB X sts) := ⟨fun pins s σ H D I h => h pins s I⟩
theorem rb_of {sts : List Stmt} {t : TS} (h : PSs X sts t) {D : Ends} {σ : L2.St} {H : Hp} (q : t D σ H) : RB X sts D σ H := fun pins s I => h.run pins s σ H D I q
end

/-! ### comes to -/
section
variable {X : Cx}
def EV (X : Cx) (e : Expr) (σ : L2.St) (H : Hp) (R : V → Hp → Prop) : Prop := ∀ H1, Same H H1 → ∀ Q : VK, (∀ v H2, Same H1 H2 → R v H2 → Q v H2) → RE X e σ H1 Q
abbrev ED {α : Type} [DecidableEq α] [Datum α] (X : Cx) (e : Expr) (σ : L2.St) (H : Hp) (x : α) : Prop := EV X e σ H fun v H2 => DD X.K H2 v x
/-- a new list of xs -/
def EL (X : Cx) (e : Expr) (σ : L2.St) (H : Hp) (R : List V → Hp → Prop) : Prop := ∀ H1, Same H H1 → ∀ Q : VK, (∀ p xs H2, H1 p = none → Same H1 H2 → H2 p = some (.lst xs) → R xs H2 → Q (.ref p) H2) → RE X e σ H1 Q
def ET (X : Cx) (e : Expr) (σ : L2.St) (H : Hp) (b : Bool) : Prop := ∀ H1, Same H H1 → ∀ Q : Bool → Hp → Prop, (∀ H2, Same H1 H2 → Q b H2) → RT X e σ H1 Q
def EW (X : Cx) (e : Expr) (σ : L2.St) (H : Hp) (b : Bool) : Prop := ∀ H1, Same H H1 → ∀ Q : Bool → Hp → Prop, (∀ H2, Same H1 H2 → Q b H2) → RW X e σ H1 Q
def EC (X : Cx) (op : CmpOp) (a b : Expr) (σ : L2.St) (H : Hp) (k : Bool) : Prop := ∀ H1, Same H H1 → ∀ Q : VK, (∀ H2, Same H1 H2 → Q (.bl k) H2) → RC X op a b σ H1 Q
def EA (X : Cx) (es : List Expr) (σ : L2.St) (H : Hp) (ds : List PyData) : Prop := ∀ H1, Same H H1 → ∀ Q : List V → Hp → Prop, (∀ vs H2, Same H1 H2 → DpAll X.K H2 vs ds → Q vs H2) → RA X es σ H1 Q

variable {σ : L2.St} {H H' : Hp} {e a b c : Expr} {es : List Expr} {pos p p2 : Pos} {α β γ : Type} [DecidableEq α] [Datum α] [DecidableEq β] [Datum β] [DecidableEq γ] [Datum γ]
theorem ev_mono {R : V → Hp → Prop} (s : Same H H') (h : EV X e σ H R) : EV X e σ H' R := fun H1 k Q q => h H1 (s.trans k) Q q
theorem ev_imp {R R' : V → Hp → Prop} (h : EV X e σ H R) (f : ∀ v H1, Same H H1 → R v H1 → R' v H1) : EV X e σ H R' := fun H1 k Q q => h H1 k Q fun v H2 s r => q v H2 s (f v H2 (k.trans s) r)
theorem et_mono {k : Bool} (s : Same H H') (h : ET X e σ H k) : ET X e σ H' k := fun H1 k Q q => h H1 (s.trans k) Q q
theorem ec_mono {op : CmpOp} {k : Bool} (s : Same H H') (h : EC X op a b σ H k) : EC X op a b σ H' k := fun H1 k Q q => h H1 (s.trans k) Q q
theorem ea_mono {ds : List PyData} (s : Same H H') (h : EA X es σ H ds) : EA X es σ H' ds := fun H1 k Q q => h H1 (s.trans k) Q q
/-- from a reading -/
theorem ev_of {t : TE} {R : V → Hp → Prop} (h : PE X e t) (q : ∀ H1, Same H H1 → ∀ Q : VK, (∀ v H2, Same H1 H2 → R v H2 → Q v H2) → t σ H1 Q) : EV X e σ H R := fun H1 k Q z => re_of h (q H1 k Q z)
theorem ed_is {x y : α} (h : ED X e σ H x) (q : x = y) : ED X e σ H y := q ▸ h
theorem et_is {x y : Bool} (h : ET X e σ H x) (q : x = y) : ET X e σ H y := q ▸ h

theorem ea_nil : EA X [] σ H [] := fun H1 _ Q q => ra_of pa_nil (q [] H1 (Same.refl H1) .nil)
theorem ea_cons {x : α} {ds : List PyData} (h : ED X e σ H x) (t : EA X es σ H ds) (hs : starEach (e :: es) X.env = (false, eval e X.env) :: starEach es X.env := by rfl) : EA X (e :: es) σ H (Datum.toD x :: ds) := fun H1 k Q q =>
  ra_of (pa_cons pe_re pa_ra hs) (h H1 k _ fun v H2 k2 d => t H2 (k.trans k2) _ fun vs H3 k3 ds => q (v :: vs) H3 (k2.trans k3) (.cons (dp_same k3 d) ds))

/-! names and constants -/
theorem ev_var (i : Nat) {nm : Str} {v : V} {R : V → Hp → Prop} (hσ : σ[i]? = some (some v)) (hR : ∀ H1, Same H H1 → R v H1) (hN : X.N[i]? = some nm := by rfl) (hv : Vis X.env.scope nm := by first | exact Or.inl rfl | exact Or.inr (Or.inl rfl) | exact Or.inr (Or.inr rfl))
    (hd : (nm == ("__debug__" : Str)) = false := by decide) (hcd : (nm == ("__classdict__" : Str)) = false := by decide) : EV X (.Name nm pos) σ H R :=
  ev_of (pe_var hN hv hd hcd) fun H1 k Q q => ⟨v, hσ, q v H1 (Same.refl H1) (hR H1 k)⟩
theorem ed_var (i : Nat) {nm : Str} {v : V} {x : α} (hσ : σ[i]? = some (some v)) (hx : DD X.K H v x) (hN : X.N[i]? = some nm := by rfl) (hv : Vis X.env.scope nm := by first | exact Or.inl rfl | exact Or.inr (Or.inl rfl) | exact Or.inr (Or.inr rfl))
    (hd : (nm == ("__debug__" : Str)) = false := by decide) (hcd : (nm == ("__classdict__" : Str)) = false := by decide) : ED X (.Name nm pos) σ H x :=
  ev_var i hσ (fun H1 k => dp_same k hx) hN hv hd hcd
theorem ed_int {i : Int} {j : Nat} : ED X (.Constant (.int i) j pos) σ H i := ev_of pe_int fun H1 _ Q q => q _ H1 (Same.refl H1) (.int i)
theorem ed_nat {i : Int} {j : Nat} (n : Nat) (e : i = (n : Int) := by rfl) : ED X (.Constant (.int i) j pos) σ H n := by
  subst e
  exact ev_of pe_int fun H1 _ Q q => q _ H1 (Same.refl H1) (.int _)
theorem ed_bl {i : Bool} {j : Nat} : ED X (.Constant (.bool i) j pos) σ H i := ev_of pe_bl fun H1 _ Q q => q _ H1 (Same.refl H1) (.bl i)
theorem ed_non {j : Nat} : ED X (.Constant .none j pos) σ H () := ev_of pe_non fun H1 _ Q q => q _ H1 (Same.refl H1) .non
theorem ed_globI {nm : Str} {i : Int} (hg : Gl X nm) (hm : ∃ t, X.mg nm = some (.int i t)) (hd : (nm == ("__debug__" : Str)) = false := by decide) : ED X (.Name nm pos) σ H i := by
  obtain ⟨t, ht⟩ := hm
  exact ev_of (pe_glob (v := .int i) hg ht ⟨t, rfl⟩ hd) fun H1 _ Q q => q _ H1 (Same.refl H1) (.int i)

/-! operators -/
theorem ev_op {op : Operator} {r : R2} {x : α} {y : β} {R : V → Hp → Prop} (ho : OpR X (binaryOp op) r) (ha : ED X a σ H x) (hb : ED X b σ H y)
    (hr : ∀ v u H1, Same H H1 → DD X.K H1 v x → DD X.K H1 u y → ∀ Q : VK, (∀ w H2, Same H1 H2 → R w H2 → Q w H2) → r v u H1 Q) : EV X (.BinOp a op b pos) σ H R :=
  ev_of (pe_op ho pe_re pe_re) fun H1 k Q q => ha H1 k _ fun v H2 k2 d2 => hb H2 (k.trans k2) _ fun u H3 k3 d3 => hr v u H3 ((k.trans k2).trans k3) (dp_same k3 d2) d3 Q fun w H4 k4 rw => q w H4 ((k2.trans k3).trans k4) rw
theorem ed_add {i j : Int} (ha : ED X a σ H i) (hb : ED X b σ H j) : ED X (.BinOp a .Add b pos) σ H (i + j) := ev_op op_add ha hb fun v u H1 _ h1 h2 Q q => ⟨i, j, dd_int h1, dd_int h2, q _ H1 (Same.refl H1) (.int _)⟩
theorem ed_sub {i j : Int} (ha : ED X a σ H i) (hb : ED X b σ H j) : ED X (.BinOp a .Sub b pos) σ H (i - j) := ev_op op_sub ha hb fun v u H1 _ h1 h2 Q q => ⟨i, j, dd_int h1, dd_int h2, q _ H1 (Same.refl H1) (.int _)⟩
theorem ed_mul {i j : Int} (ha : ED X a σ H i) (hb : ED X b σ H j) (hc : CMul i j) : ED X (.BinOp a .Mult b pos) σ H (i * j) := ev_op op_mul ha hb fun v u H1 _ h1 h2 Q q => ⟨i, j, dd_int h1, dd_int h2, hc, q _ H1 (Same.refl H1) (.int _)⟩
theorem ed_fdiv {i j : Int} (ha : ED X a σ H i) (hb : ED X b σ H j) (hc : CDivN i j) : ED X (.BinOp a .FloorDiv b pos) σ H (i.fdiv j) := ev_op op_fdivN ha hb fun v u H1 _ h1 h2 Q q => ⟨i, j, dd_int h1, dd_int h2, hc, q _ H1 (Same.refl H1) (.int _)⟩
theorem ed_mod {i j : Int} (ha : ED X a σ H i) (hb : ED X b σ H j) (hc : j ≠ 0) : ED X (.BinOp a .Mod b pos) σ H (i.fmod j) := ev_op op_modN ha hb fun v u H1 _ h1 h2 Q q => ⟨i, j, dd_int h1, dd_int h2, hc, q _ H1 (Same.refl H1) (.int _)⟩
theorem ed_shl {i j : Int} (ha : ED X a σ H i) (hb : ED X b σ H j) (hc : CPow i j) : ED X (.BinOp a .LShift b pos) σ H (i * 2 ^ j.toNat) := ev_op op_shl ha hb fun v u H1 _ h1 h2 Q q => ⟨i, j, dd_int h1, dd_int h2, hc, q _ H1 (Same.refl H1) (.int _)⟩
theorem ed_shr {i j : Int} (ha : ED X a σ H i) (hb : ED X b σ H j) (hc : 0 ≤ j) : ED X (.BinOp a .RShift b pos) σ H (i / 2 ^ j.toNat) := ev_op op_shr ha hb fun v u H1 _ h1 h2 Q q => ⟨i, j, dd_int h1, dd_int h2, hc, q _ H1 (Same.refl H1) (.int _)⟩
theorem ed_band {i j : Int} (ha : ED X a σ H i) (hb : ED X b σ H j) : ED X (.BinOp a .BitAnd b pos) σ H (Builtin.bitAnd i j) := ev_op op_and ha hb fun v u H1 _ h1 h2 Q q => ⟨i, j, dd_int h1, dd_int h2, q _ H1 (Same.refl H1) (.int _)⟩
theorem ed_addN {i j : Nat} (ha : ED X a σ H i) (hb : ED X b σ H j) : ED X (.BinOp a .Add b pos) σ H (i + j) := ed_add (i := (i : Int)) (j := (j : Int)) ha hb
/-- some + others, tuples -/
theorem ed_catT {t u : Tup α} (ha : ED X a σ H t) (hb : ED X b σ H u) (hz : t.items.length + u.items.length ≤ 1000) : ED X (.BinOp a .Add b pos) σ H (Tup.mk (t.items ++ u.items)) :=
  ev_op op_catA ha hb fun v w H1 _ h1 h2 Q q => by
    obtain ⟨p, xs, rfl, s1, d1⟩ := dd_tup h1
    obtain ⟨p', ys, rfl, s2, d2⟩ := dd_tup h2
    have e1 := dds_length d1
    have e2 := dds_length d2
    refine ⟨p, p', xs, ys, rfl, rfl, s1, s2, Nat.le_trans (by omega) (by decide : 1000 ≤ sizeLine), ?_⟩
    have hq : ∀ w H2, Same H1 H2 → DD X.K H2 w (Tup.mk (t.items ++ u.items)) → Q w H2 := q
    refine ⟨fun e => ?_, fun _ e => ?_, fun _ _ pn hpn => ?_⟩
    · subst e
      have : t.items = [] := List.eq_nil_of_length_eq_zero (by simpa using e1.symm)
      refine hq _ H1 (Same.refl H1) (dd_ofT s2 ?_)
      rw [this]
      exact d2
    · subst e
      have : u.items = [] := List.eq_nil_of_length_eq_zero (by simpa using e2.symm)
      refine hq _ H1 (Same.refl H1) (dd_ofT s1 ?_)
      rw [this, List.append_nil]
      exact d1
    · exact hq _ _ (same_new hpn) (dd_ofT (SqT.of upd_same) (dds_append (dps_same (same_new hpn) d1) (dps_same (same_new hpn) d2)))
theorem ed_catL {t u : List α} (ha : ED X a σ H t) (hb : ED X b σ H u) (hz : t.length + u.length ≤ sizeLine) : ED X (.BinOp a .Add b pos) σ H (t ++ u) :=
  ev_op (op_addL (α := α)) ha hb fun v w H1 _ h1 h2 Q q => ⟨t, u, h1, h2, hz, fun zs p hp hz => q _ _ (same_new hp) (dd_ofL (SqL.of upd_same) (dps_same (same_new hp) hz))⟩
end
end GF
set_option Elab.async false
set_option linter.all false
set_option maxRecDepth 100000
set_option maxHeartbeats 4000000
/-! comparisons, truth, calls, items, displays -/
namespace GF
open PySem PySem.Spec PySem.W PyProof.Rows L2
section
variable {X : Cx} {σ : L2.St} {H H' : Hp} {e a b c : Expr} {es rest : List Expr} {pos p p2 : Pos} {α β γ : Type} [DecidableEq α] [Datum α] [DecidableEq β] [Datum β] [DecidableEq γ] [Datum γ]
/-! comparisons -/
theorem ec_op {op : CmpOp} {r : R2} {x : α} {y : β} {k : Bool} (ho : OpR X (compareOp op) r) (ha : ED X a σ H x) (hb : ED X b σ H y)
    (hr : ∀ v u H1, DD X.K H1 v x → DD X.K H1 u y → ∀ Q : VK, Q (.bl k) H1 → r v u H1 Q) : EC X op a b σ H k := fun H1 h Q q => by
  have pc : PC X op a b (tOp r (RE X a) (RE X b)) := ⟨fun pins s σ H Q I h => L2.bin pe_re pe_re I h fun v u s2 x y H2 I2 rx ry q => ho pins s2 σ H2 x y v u Q I2 rx ry q⟩
  exact fun pins s I => pc.run pins s σ H1 Q I (ha H1 h _ fun v H2 k2 d2 => hb H2 (h.trans k2) _ fun u H3 k3 d3 => hr v u H3 (dp_same k3 d2) d3 Q (q H3 (k2.trans k3)))
theorem ed_cmp {op : CmpOp} {k : Bool} (h : EC X op a b σ H k) (h1 : behindInMarks op b = false := by first | exact nobehind _ (by decide) (by decide) | rfl) : ED X (.Compare a [op] [b] pos) σ H k :=
  ev_of (pe_cmp pc_rc h1) fun H1 s Q q => h H1 s Q fun H2 s2 => q _ H2 s2 (.bl k)
theorem et_cmp {op : CmpOp} {k : Bool} (h : EC X op a b σ H k) (h1 : behindInMarks op b = false := by first | exact nobehind _ (by decide) (by decide) | rfl) : ET X (.Compare a [op] [b] pos) σ H k := fun H1 s Q q =>
  rt_of (pt_cmp pc_rc h1) (h H1 s _ fun H2 s2 => ⟨k, rfl, q H2 s2⟩)
theorem ec_lt {i j : Int} (ha : ED X a σ H i) (hb : ED X b σ H j) : EC X .Lt a b σ H (decide (i < j)) := ec_op op_lt ha hb fun v u H1 h1 h2 Q q => ⟨i, j, dd_int h1, dd_int h2, q⟩
theorem ec_le {i j : Int} (ha : ED X a σ H i) (hb : ED X b σ H j) : EC X .LtE a b σ H (decide (i ≤ j)) := ec_op op_le ha hb fun v u H1 h1 h2 Q q => ⟨i, j, dd_int h1, dd_int h2, q⟩
theorem ec_gt {i j : Int} (ha : ED X a σ H i) (hb : ED X b σ H j) : EC X .Gt a b σ H (decide (j < i)) := ec_op op_gt ha hb fun v u H1 h1 h2 Q q => ⟨i, j, dd_int h1, dd_int h2, q⟩
theorem ec_eq (hd : Datum.depth α ≤ 60) (hu : X.A.units + 64 < cLine) {x y : α} (ha : ED X a σ H x) (hb : ED X b σ H y) : EC X .Eq a b σ H (decide (x = y)) := ec_op (op_eqT (α := α) hd hu) ha hb fun v u H1 h1 h2 Q q => ⟨x, y, h1, h2, q⟩
theorem ec_ne (hd : Datum.depth α ≤ 60) (hu : X.A.units + 64 < cLine) {x y : α} (ha : ED X a σ H x) (hb : ED X b σ H y) : EC X .NotEq a b σ H (decide (x ≠ y)) := ec_op (op_neT (α := α) hd hu) ha hb fun v u H1 h1 h2 Q q => ⟨x, y, h1, h2, q⟩
theorem ec_inL (hd : Datum.depth α ≤ 60) (hu : X.A.units + 64 < cLine) {x : α} {l : List α} (ha : ED X a σ H x) (hb : ED X b σ H l) : EC X .In a b σ H (decide (x ∈ l)) := ec_op (op_inL (α := α) hd hu) ha hb fun v u H1 h1 h2 Q q => ⟨x, l, h1, h2, q⟩
theorem ec_ninL (hd : Datum.depth α ≤ 60) (hu : X.A.units + 64 < cLine) {x : α} {l : List α} (ha : ED X a σ H x) (hb : ED X b σ H l) : EC X .NotIn a b σ H (decide (x ∉ l)) := ec_op (op_ninL (α := α) hd hu) ha hb fun v u H1 h1 h2 Q q => ⟨x, l, h1, h2, q⟩
theorem ec_inT (hd : Datum.depth α ≤ 60) (hu : X.A.units + 64 < cLine) {x : α} {l : Tup α} (ha : ED X a σ H x) (hb : ED X b σ H l) : EC X .In a b σ H (decide (x ∈ l.items)) := ec_op (op_inT (α := α) hd hu) ha hb fun v u H1 h1 h2 Q q => ⟨x, l, h1, h2, q⟩
theorem ec_ninT (hd : Datum.depth α ≤ 60) (hu : X.A.units + 64 < cLine) {x : α} {l : Tup α} (ha : ED X a σ H x) (hb : ED X b σ H l) : EC X .NotIn a b σ H (decide (x ∉ l.items)) := ec_op (op_ninT (α := α) hd hu) ha hb fun v u H1 h1 h2 Q q => ⟨x, l, h1, h2, q⟩
theorem ec_geT {δ : Type} [DecidableEq δ] [DatumOrd δ] (hd : Datum.depth δ ≤ 60) (hu : X.A.units + 64 < cLine) {x y : δ} (ha : ED X a σ H x) (hb : ED X b σ H y) : EC X .GtE a b σ H (!DatumOrd.lt x y) := ec_op (op_geT (α := δ) hd hu) ha hb fun v u H1 h1 h2 Q q => ⟨x, y, h1, h2, q⟩
theorem ec_leT {δ : Type} [DecidableEq δ] [DatumOrd δ] (hd : Datum.depth δ ≤ 60) (hu : X.A.units + 64 < cLine) {x y : δ} (ha : ED X a σ H x) (hb : ED X b σ H y) : EC X .LtE a b σ H (!DatumOrd.lt y x) := ec_op (op_leD (α := δ) hd hu) ha hb fun v u H1 h1 h2 Q q => ⟨x, y, h1, h2, q⟩
/-- is None of what is or is not None -/
theorem ec_isN {j : Nat} {pos' : Pos} {R : V → Hp → Prop} {k : Bool} (ha : EV X a σ H R) (hk : ∀ v H1, R v H1 → decide (v = V.non) = k) : EC X .Is a (.Constant .none j pos') σ H k := fun H1 h Q q => by
  have pc : PC X .Is a (.Constant .none j pos') (tIsN (RE X a)) := pc_isN pe_re
  exact fun pins s I => pc.run pins s σ H1 Q I (ha H1 h _ fun v H2 k2 d2 => by
    show Q (.bl (decide (v = V.non))) H2
    rw [hk v H2 d2]
    exact q H2 k2)
theorem ec_notN {j : Nat} {pos' : Pos} {R : V → Hp → Prop} {k : Bool} (ha : EV X a σ H R) (hk : ∀ v H1, R v H1 → (!decide (v = V.non)) = k) : EC X .IsNot a (.Constant .none j pos') σ H k := fun H1 h Q q => by
  have pc : PC X .IsNot a (.Constant .none j pos') (tNotN (RE X a)) := pc_notN pe_re
  exact fun pins s I => pc.run pins s σ H1 Q I (ha H1 h _ fun v H2 k2 d2 => by
    show Q (.bl (!decide (v = V.non))) H2
    rw [hk v H2 d2]
    exact q H2 k2)
/-- a <= b <= c, ints -/
theorem ed_chain {i j k : Int} (ha : ED X a σ H i) (hb : ED X b σ H j) (hc : ED X c σ H k) (hm : lastMarks [.LtE, .LtE] [b, c] = false := by with_unfolding_all rfl) : ED X (.Compare a [.LtE, .LtE] [b, c] pos) σ H (decide (i ≤ j) && decide (j ≤ k)) :=
  ev_of (pe_chain op_le op_le pe_re pe_re pe_re (hm := hm)) fun H1 h Q q => ha H1 h _ fun v H2 k2 d2 => hb H2 (h.trans k2) _ fun u H3 k3 d3 => ⟨i, j, dd_int (dp_same k3 d2), dd_int d3, _, rfl, by
    cases hij : decide (i ≤ j) with
    | true => exact hc H3 ((h.trans k2).trans k3) _ fun w H4 k4 d4 => ⟨j, k, dd_int (dp_same k4 d3), dd_int d4, q _ H4 ((k2.trans k3).trans k4) (by rw [hij]; exact .bl _)⟩
    | false => exact q _ H3 (k2.trans k3) (by rw [hij]; exact .bl _)⟩
theorem et_chain {i j k : Int} (ha : ED X a σ H i) (hb : ED X b σ H j) (hc : ED X c σ H k) (hm : lastMarks [.LtE, .LtE] [b, c] = false := by with_unfolding_all rfl) : ET X (.Compare a [.LtE, .LtE] [b, c] pos) σ H (decide (i ≤ j) && decide (j ≤ k)) := fun H1 h Q q =>
  rt_of (pt_chain op_le op_le pe_re pe_re pe_re (hm := hm)) (ha H1 h _ fun v H2 k2 d2 => hb H2 (h.trans k2) _ fun u H3 k3 d3 => ⟨i, j, dd_int (dp_same k3 d2), dd_int d3, _, rfl, by
    cases hij : decide (i ≤ j) with
    | true => exact hc H3 ((h.trans k2).trans k3) _ fun w H4 k4 d4 => ⟨j, k, dd_int (dp_same k4 d3), dd_int d4, _, rfl, by have := q H4 ((k2.trans k3).trans k4); rw [hij] at this; exact this⟩
    | false => exact ⟨_, rfl, by have := q H3 (k2.trans k3); rw [hij] at this; exact this⟩⟩)
/-! and, or, not: values -/
theorem ed_one {op : BoolOp} {k : Bool} (h : ED X a σ H k) : ED X (.BoolOp op [a] pos) σ H k := ev_of (pe_one pe_re) fun H1 s Q q => h H1 s Q q
theorem ed_and {k m : Bool} (ha : ED X a σ H k) (hb : k = true → ED X (.BoolOp .And (b :: rest) pos) σ H m) : ED X (.BoolOp .And (a :: b :: rest) pos) σ H (k && m) :=
  ev_of (pe_and pe_re pe_re) fun H1 s Q q => ha H1 s _ fun v H2 s2 d2 => ⟨k, dd_bl d2, by
    cases k with
    | true => exact hb rfl H2 (s.trans s2) Q fun w H3 s3 d3 => q w H3 (s2.trans s3) d3
    | false => exact q _ H2 s2 (.bl false)⟩
theorem ed_or {k m : Bool} (ha : ED X a σ H k) (hb : k = false → ED X (.BoolOp .Or (b :: rest) pos) σ H m) : ED X (.BoolOp .Or (a :: b :: rest) pos) σ H (k || m) :=
  ev_of (pe_or pe_re pe_re) fun H1 s Q q => ha H1 s _ fun v H2 s2 d2 => ⟨k, dd_bl d2, by
    cases k with
    | true => exact q _ H2 s2 (.bl true)
    | false => exact hb rfl H2 (s.trans s2) Q fun w H3 s3 d3 => q w H3 (s2.trans s3) d3⟩
theorem ed_not {k : Bool} (ha : ED X a σ H k) : ED X (.UnaryOp .Not a pos) σ H (!k) := ev_of (pe_not pe_re) fun H1 s Q q => ha H1 s _ fun v H2 s2 d2 => ⟨k, dd_bl d2, q _ H2 s2 (.bl _)⟩
/-! tests -/
theorem et_val {k : Bool} (h : ED X e σ H k) (he : ∀ whole, isTrue e X.env whole = (do let v ← whole; standAt e.pos; holding [v] (truthy v)) := by intro _; rfl) : ET X e σ H k := fun H1 s Q q =>
  rt_of (pt_val pe_re he) (h H1 s _ fun v H2 s2 d2 => ⟨k, dd_bl d2, q H2 s2⟩)
theorem et_of_ew {k : Bool} (h : EW X e σ H k) : ET X e σ H k := fun H1 s Q q => rt_of (PW.pt pw_rw) (h H1 s Q q)
theorem ew_and1 {k : Bool} (h : ET X a σ H k) : EW X (.BoolOp .And [a] pos) σ H k := fun H1 s Q q => rw_of (pw_and1 pt_rt) (h H1 s Q q)
theorem ew_or1 {k : Bool} (h : ET X a σ H k) : EW X (.BoolOp .Or [a] pos) σ H k := fun H1 s Q q => rw_of (pw_or1 pt_rt) (h H1 s Q q)
theorem ew_and {k m : Bool} (h : ET X a σ H k) (h2 : k = true → EW X (.BoolOp .And (b :: rest) pos) σ H m) : EW X (.BoolOp .And (a :: b :: rest) pos) σ H (k && m) := fun H1 s Q q => rw_of (pw_and pt_rt pw_rw) (h H1 s _ fun H2 s2 => by
  cases k with
  | true => exact h2 rfl H2 (s.trans s2) Q fun H3 s3 => q H3 (s2.trans s3)
  | false => exact q H2 s2)
theorem ew_or {k m : Bool} (h : ET X a σ H k) (h2 : k = false → EW X (.BoolOp .Or (b :: rest) pos) σ H m) : EW X (.BoolOp .Or (a :: b :: rest) pos) σ H (k || m) := fun H1 s Q q => rw_of (pw_or pt_rt pw_rw) (h H1 s _ fun H2 s2 => by
  cases k with
  | true => exact q H2 s2
  | false => exact h2 rfl H2 (s.trans s2) Q fun H3 s3 => q H3 (s2.trans s3))
theorem et_not {k : Bool} (h : ET X a σ H k) : ET X (.UnaryOp .Not a pos) σ H (!k) := fun H1 s Q q => rt_of (pt_not pt_rt) (h H1 s _ fun H2 s2 => q H2 s2)

/-! calls of defs -/
/-- a def's promise by data: of arguments ds it hands back what R says -/
def SpD (K : PySem.W.Frag) (pre : List PyData → (V → Hp → Prop) → Prop) : Sp := fun vs H Q _ => ∃ ds R, DpAll K H vs ds ∧ pre ds R ∧ ∀ v H', Same H H' → R v H' → Q v H'
/-- the def that stands at the module's name -/
def Cal (P : Program) (w : World) (K : PySem.W.Frag) (mg : Str → Option Value) (base : Heap) (nm : Str) (k : Nat) (sp : Sp) : Prop :=
  ∃ f fd ps, FnOk P w K mg base CX0 k f fd ps sp ∧ mg nm = some (.ref f) ∧ PySem.W.keepIn K (.ref f) = true ∧ Binds K fd ps []
theorem ev_callS {k : Nat} {nm : Str} {sp : Sp} {R : V → Hp → Prop} {ds : List PyData} (C : Cal X.prog X.w X.K X.mg X.base nm k sp) (hr : Room k X.A) (hg : Gl X nm) (ha : EA X (e :: es) σ H ds)
    (hs : ∀ vs H1, Same H H1 → DpAll X.K H1 vs ds → ∀ Q : VK, (∀ v H2, Same H1 H2 → R v H2 → Q v H2) → sp vs H1 Q E0)
    (hd : (nm == ("__debug__" : Str)) = false := by decide)
    (he : starEach (e :: es) X.env = (false, eval e X.env) :: starEach es X.env := by rfl) (hpl : (backTo pos (starEach es X.env)).any (·.1) = false := by rfl) : EV X (.Call (.Name nm p) (e :: es) [] pos) σ H R := by
  obtain ⟨f, fd, ps, F, hm, hk, hb⟩ := C
  have pe : PE X (.Call (.Name nm p) (e :: es) [] pos) (tCall sp [] E0 (RA X (e :: es))) := by
    exact pe_call F hr hg hm hk hb .nil pass0 pa_ra hd he hpl
  exact ev_of pe fun H1 h Q q => ha H1 h _ fun vs H2 s2 d2 => by
    rw [List.append_nil]
    exact hs vs H2 (h.trans s2) d2 Q fun v H3 s3 r => q v H3 (s2.trans s3) r
theorem ev_call {k : Nat} {nm : Str} {pre : List PyData → (V → Hp → Prop) → Prop} {R : V → Hp → Prop} {ds : List PyData} (C : Cal X.prog X.w X.K X.mg X.base nm k (SpD X.K pre)) (hr : Room k X.A) (hg : Gl X nm) (ha : EA X (e :: es) σ H ds) (hp : pre ds R)
    (hd : (nm == ("__debug__" : Str)) = false := by decide)
    (he : starEach (e :: es) X.env = (false, eval e X.env) :: starEach es X.env := by rfl) (hpl : (backTo pos (starEach es X.env)).any (·.1) = false := by rfl) : EV X (.Call (.Name nm p) (e :: es) [] pos) σ H R :=
  ev_callS C hr hg ha (fun vs H1 _ d Q q => ⟨ds, R, d, hp, q⟩) hd he hpl

/-! calls of built-ins -/
theorem ev_callB {nm : Str} {id : String} {r : List V → Hp → VK → Prop} {R : V → Hp → Prop} {ds : List PyData} (hc : CallR X (.builtin id) r) (hg : Gl X nm) (hm : X.mg nm = none) (hv : bootBuiltins nm = some (.builtin id)) (ha : EA X (e :: es) σ H ds)
    (hr : ∀ vs H1, Same H H1 → DpAll X.K H1 vs ds → ∀ Q : VK, (∀ v H2, Same H1 H2 → R v H2 → Q v H2) → r vs H1 Q) (hn : nm ≠ "__name__" := by decide) (hdb : (nm == ("__debug__" : Str)) = false := by decide)
    (he : starEach (e :: es) X.env = (false, eval e X.env) :: starEach es X.env := by rfl) (hpl : (backTo pos (starEach es X.env)).any (·.1) = false := by rfl) : EV X (.Call (.Name nm p) (e :: es) [] pos) σ H R := by
  have pe : PE X (.Call (.Name nm p) (e :: es) [] pos) (tCB r (RA X (e :: es))) := by
    exact pe_callB hc hg hm hv pa_ra hn hdb he hpl
  exact ev_of pe fun H1 h Q q => ha H1 h _ fun vs H2 s2 d2 => hr vs H2 (h.trans s2) d2 Q fun v H3 s3 rr => q v H3 (s2.trans s3) rr
theorem ev_callTy {nm : Str} {T : String} {r : List V → Hp → VK → Prop} {R : V → Hp → Prop} {ds : List PyData} (hc : CallR X (.type T) r) (hg : Gl X nm) (hm : X.mg nm = none) (hv : bootBuiltins nm = some (.type T)) (ha : EA X (e :: es) σ H ds)
    (hr : ∀ vs H1, Same H H1 → DpAll X.K H1 vs ds → ∀ Q : VK, (∀ v H2, Same H1 H2 → R v H2 → Q v H2) → r vs H1 Q) (hn : nm ≠ "__name__" := by decide) (hdb : (nm == ("__debug__" : Str)) = false := by decide)
    (he : starEach (e :: es) X.env = (false, eval e X.env) :: starEach es X.env := by rfl) (hpl : (backTo pos (starEach es X.env)).any (·.1) = false := by rfl) : EV X (.Call (.Name nm p) (e :: es) [] pos) σ H R := by
  have pe : PE X (.Call (.Name nm p) (e :: es) [] pos) (tCB r (RA X (e :: es))) := by
    exact pe_callTy hc hg hm hv pa_ra hn hdb he hpl
  exact ev_of pe fun H1 h Q q => ha H1 h _ fun vs H2 s2 d2 => hr vs H2 (h.trans s2) d2 Q fun v H3 s3 rr => q v H3 (s2.trans s3) rr
end
section
variable {K : PySem.W.Frag} {H : Hp} {vs : List V} {α β : Type} [DecidableEq α] [Datum α] [DecidableEq β] [Datum β]
theorem one_of {x : α} (h : DpAll K H vs [Datum.toD x]) : ∃ v, vs = [v] ∧ DD K H v x := by
  cases h with
  | cons h t =>
    cases t
    exact ⟨_, rfl, h⟩
theorem two_of {x : α} {y : β} (h : DpAll K H vs [Datum.toD x, Datum.toD y]) : ∃ v u, vs = [v, u] ∧ DD K H v x ∧ DD K H u y := by
  cases h with
  | cons h t =>
    cases t with
    | cons h2 t =>
      cases t
      exact ⟨_, _, rfl, h, h2⟩
theorem three_of {γ : Type} [DecidableEq γ] [Datum γ] {x : α} {y : β} {z : γ} (h : DpAll K H vs [Datum.toD x, Datum.toD y, Datum.toD z]) : ∃ v u w, vs = [v, u, w] ∧ DD K H v x ∧ DD K H u y ∧ DD K H w z := by
  cases h with
  | cons h t =>
    cases t with
    | cons h2 t =>
      cases t with
      | cons h3 t =>
        cases t
        exact ⟨_, _, _, rfl, h, h2, h3⟩
end
end GF
set_option Elab.async false
set_option linter.all false
set_option maxRecDepth 100000
set_option maxHeartbeats 4000000
/-! built-ins, items, slices, displays, comprehensions -/
namespace GF
open PySem PySem.Spec PySem.W PyProof.Rows L2
/-- the built-in names that the program uses are the built-ins -/
structure Bls (mg : Str → Option Value) : Prop where
  isinstance : mg "isinstance" = none
  len : mg "len" = none
  int : mg "int" = none
  bool : mg "bool" = none
  tuple : mg "tuple" = none
  list : mg "list" = none
  range : mg "range" = none
  enumerate : mg "enumerate" = none
  zip : mg "zip" = none
  sorted : mg "sorted" = none
  any : mg "any" = none
  all : mg "all" = none
  max : mg "max" = none
  min : mg "min" = none
  sum : mg "sum" = none
section
variable {K : PySem.W.Frag} {H : Hp} {v : V} {α : Type} [DecidableEq α] [Datum α]
theorem tyx_list {l : List α} (h : DD K H v l) : TyX K H v (.type "list") := by
  obtain ⟨a, xs, rfl, h1, _⟩ := dd_lst h
  rcases h1 with (h1 | ⟨o, h1⟩) | ⟨o, its, n, h1, h2, _⟩
  · exact .base (.lst h1)
  · exact .base (.frz h1)
  · exact .kList h1 h2
theorem tyx_tup {l : Tup α} (h : DD K H v l) : TyX K H v (.type "tuple") := by
  obtain ⟨a, xs, rfl, h1, _⟩ := dd_tup h
  rcases h1 with (h1 | ⟨o, h1⟩) | ⟨o, its, n, h1, h2, _⟩
  · exact .base (.tup h1)
  · exact .fTuple h1
  · exact .kTuple h1 h2
theorem tyx_pair {β : Type} [DecidableEq β] [Datum β] {l : α × β} (h : DD K H v l) : TyX K H v (.type "tuple") := by
  obtain ⟨a, x, y, rfl, h1, _⟩ := dd_pair h
  rcases h1 with (h1 | ⟨o, h1⟩) | ⟨o, its, n, h1, h2, _⟩
  · exact .base (.tup h1)
  · exact .fTuple h1
  · exact .kTuple h1 h2
theorem tyx_int {i : Int} (h : DD K H v i) : TyX K H v (.type "int") := by
  rw [dd_int h]
  exact .base (.int i)
end
section
variable {X : Cx} {σ : L2.St} {H H' : Hp} {e a b c : Expr} {es rest : List Expr} {pos p p2 p3 : Pos} {α β γ : Type} [DecidableEq α] [Datum α] [DecidableEq β] [Datum β] [DecidableEq γ] [Datum γ]
theorem ed_isi {nm : Str} {T S : String} {k : Bool} {R : V → Hp → Prop} (hB : Bls X.mg) (hg : Gl X "isinstance") (hgT : Gl X nm) (hT : X.mg nm = none) (hv : bootBuiltins nm = some (.type T)) (ha : EV X a σ H R) (hR : ∀ v H1, R v H1 → TyX X.K H1 v (.type S)) (hk : kitB S T = some k)
    (hn : nm ≠ "__name__" := by decide) (hdb : (nm == ("__debug__" : Str)) = false := by decide)
    (h1 : starEach [a, .Name nm p2] X.env = (false, eval a X.env) :: starEach [.Name nm p2] X.env := by rfl) (h2 : starEach [.Name nm p2] X.env = (false, eval (.Name nm p2) X.env) :: starEach [] X.env := by rfl)
    (hpl : (backTo pos (starEach [.Name nm p2] X.env)).any (·.1) = false := by rfl) : ED X (.Call (.Name "isinstance" p) [a, .Name nm p2] [] pos) σ H k :=
  ev_of (pe_callB call_isi hg hB.isinstance (by decide +kernel) (pa_cons pe_re (pa_cons (pe_bltn (v := .ty T) hgT hT hv rfl hn hdb) pa_nil h2) h1) (by decide) (by decide) h1 hpl) fun H1 h Q q =>
    ha H1 h _ fun v H2 s2 r => ⟨v, .ty T, .type S, .type T, k, rfl, .ty T, hR v H2 r, kit_ty hk, q _ H2 s2 (.bl k)⟩
theorem ed_lenL {l : List α} (hB : Bls X.mg) (hg : Gl X "len") (ha : ED X a σ H l) (he : starEach [a] X.env = (false, eval a X.env) :: starEach [] X.env := by rfl) (hpl : (backTo pos (starEach [] X.env)).any (·.1) = false := by rfl) : ED X (.Call (.Name "len" p) [a] [] pos) σ H l.length :=
  ev_callB call_len_seq hg hB.len PySem.boot_len (ea_cons ha ea_nil he) (fun vs H1 _ d0 Q q => by
    obtain ⟨v, rfl, d⟩ := one_of d0
    obtain ⟨ad, xs, rfl, h1, h2⟩ := dd_lst d
    exact ⟨ad, xs, rfl, .inl h1, q _ H1 (Same.refl H1) (by rw [dds_length h2]; exact .int _)⟩) (by decide) (by decide) he hpl
theorem ed_lenT {l : Tup α} (hB : Bls X.mg) (hg : Gl X "len") (ha : ED X a σ H l) (he : starEach [a] X.env = (false, eval a X.env) :: starEach [] X.env := by rfl) (hpl : (backTo pos (starEach [] X.env)).any (·.1) = false := by rfl) : ED X (.Call (.Name "len" p) [a] [] pos) σ H l.items.length :=
  ev_callB call_len_seq hg hB.len PySem.boot_len (ea_cons ha ea_nil he) (fun vs H1 _ d0 Q q => by
    obtain ⟨v, rfl, d⟩ := one_of d0
    obtain ⟨ad, xs, rfl, h1, h2⟩ := dd_tup d
    exact ⟨ad, xs, rfl, .inr h1, q _ H1 (Same.refl H1) (by rw [dds_length h2]; exact .int _)⟩) (by decide) (by decide) he hpl
theorem ed_lenP {l : α × β} (hB : Bls X.mg) (hg : Gl X "len") (ha : ED X a σ H l) (he : starEach [a] X.env = (false, eval a X.env) :: starEach [] X.env := by rfl) (hpl : (backTo pos (starEach [] X.env)).any (·.1) = false := by rfl) : ED X (.Call (.Name "len" p) [a] [] pos) σ H (2 : Nat) :=
  ev_callB call_len_seq hg hB.len PySem.boot_len (ea_cons ha ea_nil he) (fun vs H1 _ d0 Q q => by
    obtain ⟨v, rfl, d⟩ := one_of d0
    obtain ⟨ad, x, y, rfl, h1, _⟩ := dd_pair d
    exact ⟨ad, _, rfl, .inr h1, q _ H1 (Same.refl H1) (.int _)⟩) (by decide) (by decide) he hpl
/-- list(t) of a tuple; list(l) -/
theorem ed_listT {l : Tup α} (hB : Bls X.mg) (hg : Gl X "list") (ha : ED X a σ H l) (he : starEach [a] X.env = (false, eval a X.env) :: starEach [] X.env := by rfl) (hpl : (backTo pos (starEach [] X.env)).any (·.1) = false := by rfl) : ED X (.Call (.Name "list" p) [a] [] pos) σ H l.items :=
  ev_callTy call_list_of hg hB.list (by decide +kernel) (ea_cons ha ea_nil he) (fun vs H1 _ d0 Q q => by
    obtain ⟨v, rfl, d⟩ := one_of d0
    obtain ⟨ad, xs, rfl, h1, h2⟩ := dd_tup d
    exact ⟨ad, xs, rfl, .inr h1, fun l hl => q _ _ (same_new hl) (dd_ofL (SqL.of upd_same) (dps_same (same_new hl) h2))⟩) (by decide) (by decide) he hpl
/-- tuple(l) of a list -/
theorem ed_tupleL {l : List α} (hB : Bls X.mg) (hg : Gl X "tuple") (ha : ED X a σ H l) (he : starEach [a] X.env = (false, eval a X.env) :: starEach [] X.env := by rfl) (hpl : (backTo pos (starEach [] X.env)).any (·.1) = false := by rfl) : ED X (.Call (.Name "tuple" p) [a] [] pos) σ H (Tup.mk l) :=
  ev_callTy call_tuple_of hg hB.tuple (by decide +kernel) (ea_cons ha ea_nil he) (fun vs H1 _ d0 Q q => by
    obtain ⟨v, rfl, d⟩ := one_of d0
    obtain ⟨ad, xs, rfl, h1, h2⟩ := dd_lst d
    exact ⟨ad, xs, rfl, .inl ⟨h1, fun l hl => q _ _ (same_new hl) (dd_ofT (SqT.of upd_same) (dps_same (same_new hl) h2))⟩⟩) (by decide) (by decide) he hpl
theorem ed_any {l : List Bool} (hc : X.calm = true) (hB : Bls X.mg) (hg : Gl X "any") (ha : ED X a σ H l) (he : starEach [a] X.env = (false, eval a X.env) :: starEach [] X.env := by rfl) (hpl : (backTo pos (starEach [] X.env)).any (·.1) = false := by rfl) : ED X (.Call (.Name "any" p) [a] [] pos) σ H (l.any id) :=
  ev_callB (cr_any hc) hg hB.any (by decide +kernel) (ea_cons ha ea_nil he) (fun vs H1 _ d0 Q q => by
    obtain ⟨v, rfl, d⟩ := one_of d0
    obtain ⟨ad, xs, rfl, h1, h2⟩ := dd_lst d
    rw [dds_bls h2] at h1
    exact ⟨ad, l, rfl, h1, q _ H1 (Same.refl H1) (.bl _)⟩) (by decide) (by decide) he hpl
theorem ed_all {l : List Bool} (hc : X.calm = true) (hB : Bls X.mg) (hg : Gl X "all") (ha : ED X a σ H l) (he : starEach [a] X.env = (false, eval a X.env) :: starEach [] X.env := by rfl) (hpl : (backTo pos (starEach [] X.env)).any (·.1) = false := by rfl) : ED X (.Call (.Name "all" p) [a] [] pos) σ H (l.all id) :=
  ev_callB (cr_all hc) hg hB.all (by decide +kernel) (ea_cons ha ea_nil he) (fun vs H1 _ d0 Q q => by
    obtain ⟨v, rfl, d⟩ := one_of d0
    obtain ⟨ad, xs, rfl, h1, h2⟩ := dd_lst d
    rw [dds_bls h2] at h1
    exact ⟨ad, l, rfl, h1, q _ H1 (Same.refl H1) (.bl _)⟩) (by decide) (by decide) he hpl
/-- max(l), min(l): ints -/
theorem ed_maxL {l : List Int} {m : Int} (hc : X.calm = true) (hB : Bls X.mg) (hg : Gl X "max") (ha : ED X a σ H l) (hm : m ∈ l) (hx : ∀ y ∈ l, y ≤ m) (he : starEach [a] X.env = (false, eval a X.env) :: starEach [] X.env := by rfl) (hpl : (backTo pos (starEach [] X.env)).any (·.1) = false := by rfl) : ED X (.Call (.Name "max" p) [a] [] pos) σ H m :=
  ev_callB (cr_max hc) hg hB.max (by decide +kernel) (ea_cons ha ea_nil he) (fun vs H1 _ d0 Q q => by
    obtain ⟨v, rfl, d⟩ := one_of d0
    obtain ⟨ad, xs, rfl, h1, h2⟩ := dd_lst d
    rw [dds_ints h2] at h1
    refine ⟨ad, l, rfl, h1, List.length_pos_of_mem hm, fun m' k1 k2 => ?_⟩
    have e : m' = m := Int.le_antisymm (hx m' k1) (k2 m hm)
    subst e
    exact q _ H1 (Same.refl H1) (.int _)) (by decide) (by decide) he hpl
theorem ed_minL {l : List Int} {m : Int} (hc : X.calm = true) (hB : Bls X.mg) (hg : Gl X "min") (ha : ED X a σ H l) (hm : m ∈ l) (hx : ∀ y ∈ l, m ≤ y) (he : starEach [a] X.env = (false, eval a X.env) :: starEach [] X.env := by rfl) (hpl : (backTo pos (starEach [] X.env)).any (·.1) = false := by rfl) : ED X (.Call (.Name "min" p) [a] [] pos) σ H m :=
  ev_callB (cr_min hc) hg hB.min (by decide +kernel) (ea_cons ha ea_nil he) (fun vs H1 _ d0 Q q => by
    obtain ⟨v, rfl, d⟩ := one_of d0
    obtain ⟨ad, xs, rfl, h1, h2⟩ := dd_lst d
    rw [dds_ints h2] at h1
    refine ⟨ad, l, rfl, h1, List.length_pos_of_mem hm, fun m' k1 k2 => ?_⟩
    have e : m' = m := Int.le_antisymm (k2 m hm) (hx m' k1)
    subst e
    exact q _ H1 (Same.refl H1) (.int _)) (by decide) (by decide) he hpl
/-- max(i, j) -/
theorem ed_max2 {i j : Int} (hc : X.calm = true) (hB : Bls X.mg) (hg : Gl X "max") (ha : ED X a σ H i) (hb : ED X b σ H j) (he : starEach [a, b] X.env = (false, eval a X.env) :: starEach [b] X.env := by rfl) (he2 : starEach [b] X.env = (false, eval b X.env) :: starEach [] X.env := by rfl) (hpl : (backTo pos (starEach [b] X.env)).any (·.1) = false := by rfl) : ED X (.Call (.Name "max" p) [a, b] [] pos) σ H (max i j) :=
  ev_callB (call_max2 hc) hg hB.max (by decide +kernel) (ea_cons ha (ea_cons hb ea_nil he2) he) (fun vs H1 _ d Q q => by
    obtain ⟨v, u, rfl, d1, d2⟩ := two_of d
    rw [dd_int d1, dd_int d2]
    refine ⟨i, j, rfl, q _ H1 (Same.refl H1) ?_⟩
    have e : (if j > i then j else i) = max i j := by omega
    rw [e]
    exact .int _) (by decide) (by decide) he hpl
/-- int(bool) -/
theorem ed_intB {k : Bool} (hB : Bls X.mg) (hg : Gl X "int") (ha : ED X a σ H k) (he : starEach [a] X.env = (false, eval a X.env) :: starEach [] X.env := by rfl) (hpl : (backTo pos (starEach [] X.env)).any (·.1) = false := by rfl) : ED X (.Call (.Name "int" p) [a] [] pos) σ H (if k then (1 : Int) else 0) :=
  ev_callTy call_int1 hg hB.int (by decide +kernel) (ea_cons ha ea_nil he) (fun vs H1 _ d0 Q q => by
    obtain ⟨v, rfl, d⟩ := one_of d0
    rw [dd_bl d]
    exact .inr ⟨k, rfl, q _ H1 (Same.refl H1) (.int _)⟩) (by decide) (by decide) he hpl
theorem ed_sorted {δ : Type} [DecidableEq δ] [DatumOrd δ] {l : List δ} (hd : Datum.depth δ ≤ 60) (hu : X.A.units + 128 < cLine) (hB : Bls X.mg) (hg : Gl X "sorted") (ha : ED X a σ H l) (hk : SrtOk l) (he : starEach [a] X.env = (false, eval a X.env) :: starEach [] X.env := by rfl) (hpl : (backTo pos (starEach [] X.env)).any (·.1) = false := by rfl) :
    ED X (.Call (.Name "sorted" p) [a] [] pos) σ H (l.mergeSort leD) :=
  ev_callB (cr_sortedT (α := δ) hd hu) hg hB.sorted (by decide +kernel) (ea_cons ha ea_nil he) (fun vs H1 _ d0 Q q => by
    obtain ⟨v, rfl, d⟩ := one_of d0
    exact ⟨v, l, rfl, d, hk, fun zs p hp hz => q _ _ (same_new hp) (dd_ofL (SqL.of upd_same) (dps_same (same_new hp) hz))⟩) (by decide) (by decide) he hpl
/-- max(l, default=d) -/
theorem ed_maxD {l : List Int} {d : Int} {kpos : Pos} {a2 : Expr} (hc : X.calm = true) (hu : X.A.units + 64 < cLine) (hB : Bls X.mg) (hg : Gl X "max") (ha : ED X a σ H l) (hb : ED X a2 σ H d)
    (he : ∀ pos : Pos, backTo pos (starEach [a] X.env) = (false, eval a X.env) :: backTo pos (starEach [] X.env) := by intro _; rfl) (hpl : (backTo pos (starEach [a] X.env)).any (·.1) = false := by rfl) (he0 : starEach [a] X.env = (false, eval a X.env) :: starEach [] X.env := by rfl)
    (hall : (backToKw pos (keywordEach [⟨some "default", a2, kpos⟩] X.env)).all (·.1.isSome) = true := by rfl) (hnone : (backToKw pos (keywordEach [⟨some "default", a2, kpos⟩] X.env)).any (·.1.isNone) = false := by rfl) (hks : (backToKw pos (keywordEach [⟨some "default", a2, kpos⟩] X.env)).filterMap (·.1) = [Str.ofString "default"] := by rfl) :
    ED X (.Call (.Name "max" p) [a] [⟨some "default", a2, kpos⟩] pos) σ H (maxOr d l) :=
  ev_of (pe_callBK (cr_maxD hc hu) hg hB.max (by decide +kernel) (pa_cons pe_re pa_nil he0) (pk_cons pe_re pk_nil) (by decide) (by decide) (he pos) hpl hall hnone hks) fun H1 h Q q =>
    ha H1 h _ fun v H2 s2 d2 => hb H2 (h.trans s2) _ fun u H3 s3 d3 => ⟨l, d, v, rfl, by rw [dd_int d3], dp_same s3 d2, q _ H3 (s2.trans s3) (.int _)⟩
/-- sum(ls, start=[]) -/
theorem ed_sumL {ls : List (List α)} {kpos lpos : Pos} (hc : X.calm = true) (hB : Bls X.mg) (hg : Gl X "sum") (ha : ED X a σ H ls) (hne : ls ≠ []) (hz : ls.flatten.length ≤ sizeLine)
    (he : ∀ pos : Pos, backTo pos (starEach [a] X.env) = (false, eval a X.env) :: backTo pos (starEach [] X.env) := by intro _; rfl) (hpl : (backTo pos (starEach [a] X.env)).any (·.1) = false := by rfl) (he0 : starEach [a] X.env = (false, eval a X.env) :: starEach [] X.env := by rfl)
    (hall : (backToKw pos (keywordEach [⟨some "start", .List [] lpos, kpos⟩] X.env)).all (·.1.isSome) = true := by rfl) (hnone : (backToKw pos (keywordEach [⟨some "start", .List [] lpos, kpos⟩] X.env)).any (·.1.isNone) = false := by rfl) (hks : (backToKw pos (keywordEach [⟨some "start", .List [] lpos, kpos⟩] X.env)).filterMap (·.1) = [Str.ofString "start"] := by rfl) :
    ED X (.Call (.Name "sum" p) [a] [⟨some "start", .List [] lpos, kpos⟩] pos) σ H ls.flatten :=
  ev_of (pe_callBK (cr_sumL (α := α) hc) hg hB.sum (by decide +kernel) (pa_cons pe_re pa_nil he0) (pk_cons (pe_lst pa_nil) pk_nil) (by decide) (by decide) (he pos) hpl hall hnone hks) fun H1 h Q q =>
    ha H1 h _ fun v H2 s2 d2 => ⟨Nat.zero_le _, fun z hz0 => ⟨v, z, ls, rfl, rfl, upd_same, dp_same (same_new hz0) d2, hne, hz, fun ws pn hpn hd => q _ _ ((s2.trans (same_new hz0)).trans (same_new hpn)) (dd_ofL (SqL.of upd_same) (dps_same (same_new hpn) hd))⟩⟩
/-! items -/
theorem ed_fst {x : α × β} {j : Nat} {ipos : Pos} (ha : ED X a σ H x) : ED X (.Subscript a (.Constant (.int 0) j ipos) pos) σ H x.1 :=
  ev_of (pe_ix ix_tup pe_re pe_int (fun _ _ => rfl)) fun H1 h Q q => ha H1 h _ fun v H2 s2 d => by
    obtain ⟨p, y, z, rfl, h1, h2, h3⟩ := dd_pair d
    exact ⟨p, _, 0, y, rfl, rfl, h1, rfl, q y H2 s2 h2⟩
theorem ed_snd {x : α × β} {j : Nat} {ipos : Pos} (ha : ED X a σ H x) : ED X (.Subscript a (.Constant (.int 1) j ipos) pos) σ H x.2 :=
  ev_of (pe_ix ix_tup pe_re pe_int (fun _ _ => rfl)) fun H1 h Q q => ha H1 h _ fun v H2 s2 d => by
    obtain ⟨p, y, z, rfl, h1, h2, h3⟩ := dd_pair d
    exact ⟨p, _, 1, z, rfl, rfl, h1, rfl, q z H2 s2 h3⟩
theorem ed_ixL {l : List α} {i : Nat} {x : α} (ha : ED X a σ H l) (hb : ED X b σ H i) (hx : l[i]? = some x) (hpi : ∀ o i, subscripted b false o i = operate [o, i] (getItem o i) := by intro _ _; rfl) : ED X (.Subscript a b pos) σ H x :=
  ev_of (pe_ix ix_list pe_re pe_re hpi) fun H1 h Q q => ha H1 h _ fun v H2 s2 d => hb H2 (h.trans s2) _ fun u H3 s3 d3 => by
    obtain ⟨p, xs, rfl, h1, h2⟩ := dd_lst (dp_same s3 d)
    obtain ⟨y, hy, dy⟩ := dds_get h2 hx
    exact ⟨p, xs, i, y, rfl, dd_nat d3, h1, atI_nat hy, q y H3 (s2.trans s3) dy⟩
theorem ed_ixT {l : Tup α} {i : Nat} {x : α} (ha : ED X a σ H l) (hb : ED X b σ H i) (hx : l.items[i]? = some x) (hpi : ∀ o i, subscripted b false o i = operate [o, i] (getItem o i) := by intro _ _; rfl) : ED X (.Subscript a b pos) σ H x :=
  ev_of (pe_ix ix_tup pe_re pe_re hpi) fun H1 h Q q => ha H1 h _ fun v H2 s2 d => hb H2 (h.trans s2) _ fun u H3 s3 d3 => by
    obtain ⟨p, xs, rfl, h1, h2⟩ := dd_tup (dp_same s3 d)
    obtain ⟨y, hy, dy⟩ := dds_get h2 hx
    exact ⟨p, xs, i, y, rfl, dd_nat d3, h1, atI_nat hy, q y H3 (s2.trans s3) dy⟩
/-! slices -/
def EO (X : Cx) (o : Option Expr) (σ : L2.St) (H : Hp) (k : Option Int) : Prop := ∃ t, PO X o t ∧ ∀ H1, Same H H1 → ∀ Q : Option Int → Hp → Prop, (∀ H2, Same H1 H2 → Q k H2) → t σ H1 Q
theorem eo_none : EO X none σ H none := ⟨_, po_none, fun H1 _ Q q => q H1 (Same.refl H1)⟩
theorem eo_some {i : Int} (h : ED X a σ H i) : EO X (some a) σ H (some i) := ⟨_, po_some pe_re, fun H1 s Q q => h H1 s _ fun v H2 s2 d => ⟨i, dd_int d, q H2 s2⟩⟩
def cutD {α : Type} (l : List α) (lo hi : Option Int) : List α := (l.drop (HT.sIx l.length 0 lo)).take (HT.sIx l.length l.length hi - HT.sIx l.length 0 lo)
theorem cut_dds {K : PySem.W.Frag} {xs : List V} {l : List α} (h : DDs K H xs l) (lo hi : Option Int) : DDs K H (cutV xs lo hi) (cutD l lo hi) := by
  unfold cutV cutD
  rw [dds_length h]
  exact dds_take _ (dds_drop _ h)
theorem ed_slT {l : Tup α} {lo hi : Option Expr} {i j : Option Int} (ha : ED X a σ H l) (h1 : EO X lo σ H i) (h2 : EO X hi σ H j) : ED X (.Subscript a (.Slice lo hi none p2) pos) σ H (Tup.mk (cutD l.items i j)) := by
  obtain ⟨t1, q1, e1⟩ := h1
  obtain ⟨t2, q2, e2⟩ := h2
  refine ev_of (pe_slice sl_tupA pe_re q1 q2) fun H1 h Q q => ha H1 h _ fun v H2 s2 d => e1 H2 (h.trans s2) _ fun H3 s3 => e2 H3 ((h.trans s2).trans s3) _ fun H4 s4 => ?_
  obtain ⟨p, xs, rfl, k1, k2⟩ := dd_tup (dp_same (s3.trans s4) d)
  have cd := cut_dds k2 i j
  have hq : ∀ w H5, Same H4 H5 → DD X.K H5 w (Tup.mk (cutD l.items i j)) → Q w H5 := fun w H5 s5 d5 => q w H5 (((s2.trans s3).trans s4).trans s5) d5
  refine ⟨p, xs, rfl, k1, fun ⟨z1, z2⟩ => hq _ H4 (Same.refl H4) (dd_ofT k1 ?_), fun _ pn hpn => hq _ _ (same_new hpn) (dd_ofT (SqT.of upd_same) (dps_same (same_new hpn) cd))⟩
  have e : cutV xs i j = xs := by
    unfold cutV
    rw [z1, z2]
    simp
  rw [e] at cd
  exact cd
theorem ed_slL {l : List α} {lo hi : Option Expr} {i j : Option Int} (ha : ED X a σ H l) (h1 : EO X lo σ H i) (h2 : EO X hi σ H j) : ED X (.Subscript a (.Slice lo hi none p2) pos) σ H (cutD l i j) := by
  obtain ⟨t1, q1, e1⟩ := h1
  obtain ⟨t2, q2, e2⟩ := h2
  refine ev_of (pe_slice sl_list pe_re q1 q2) fun H1 h Q q => ha H1 h _ fun v H2 s2 d => e1 H2 (h.trans s2) _ fun H3 s3 => e2 H3 ((h.trans s2).trans s3) _ fun H4 s4 => ?_
  obtain ⟨p, xs, rfl, k1, k2⟩ := dd_lst (dp_same (s3.trans s4) d)
  exact ⟨p, xs, rfl, k1, fun pn hpn => q _ _ (((s2.trans s3).trans s4).trans (same_new hpn)) (dd_ofL (SqL.of upd_same) (dps_same (same_new hpn) (cut_dds k2 i j)))⟩
/-! displays -/
theorem sz1000 {n : Nat} (h : n ≤ 1000) : n ≤ sizeLine := Nat.le_trans h (by decide)
theorem ed_pair {x : α} {y : β} {k : Nat} (ha : ED X a σ H x) (hb : ED X b σ H y) (he : starEach [a, b] X.env = (false, eval a X.env) :: starEach [b] X.env := by rfl) (he2 : starEach [b] X.env = (false, eval b X.env) :: starEach [] X.env := by rfl) : ED X (.Tuple [a, b] k pos) σ H (x, y) :=
  ev_of (pe_tup pa_ra) fun H1 h Q q => (ea_cons ha (ea_cons hb ea_nil he2) he) H1 h _ fun vs H2 s2 d => by
    have hl := dps_length d
    exact ⟨sz1000 (by rw [hl]; simp), fun pn hpn => q _ _ (s2.trans (same_new hpn)) (.tup (SqT.of upd_same) (dps_same (same_new hpn) d))⟩
/-- a tuple, a list of things of one type -/
theorem ea_map {xs : List α} {ds : List PyData} (h : EA X es σ H ds) (e : ds = xs.map Datum.toD) : EA X es σ H (xs.map Datum.toD) := e ▸ h
theorem ed_tup {xs : List α} {ds : List PyData} {k : Nat} (h : EA X es σ H ds) (e : ds = xs.map Datum.toD) (hz : xs.length ≤ 1000) : ED X (.Tuple es k pos) σ H (Tup.mk xs) :=
  ev_of (pe_tup pa_ra) fun H1 hh Q q => h H1 hh _ fun vs H2 s2 d => by
    subst e
    have hl := dds_length d
    exact ⟨sz1000 (by rw [hl]; exact hz), fun pn hpn => q _ _ (s2.trans (same_new hpn)) (.tup (SqT.of upd_same) (dps_same (same_new hpn) d))⟩
theorem ed_lst {xs : List α} {ds : List PyData} (h : EA X es σ H ds) (e : ds = xs.map Datum.toD) (hz : xs.length ≤ 1000) : ED X (.List es pos) σ H xs :=
  ev_of (pe_lst pa_ra) fun H1 hh Q q => h H1 hh _ fun vs H2 s2 d => by
    subst e
    have hl := dds_length d
    exact ⟨sz1000 (by rw [hl]; exact hz), fun pn hpn => q _ _ (s2.trans (same_new hpn)) (.lst (SqL.of upd_same) (dps_same (same_new hpn) d))⟩
/-- a if t else b; not used by the text -/
theorem ed_if {k : Bool} {x : α} (h : ET X c σ H k) (h1 : k = true → ED X a σ H x) (h2 : k = false → ED X b σ H x) : ED X (.IfExp c a b pos) σ H x :=
  ev_of (pe_ifExp pt_rt pe_re pe_re) fun H1 s Q q => h H1 s _ fun H2 s2 => by
    cases k with
    | true => exact h1 rfl H2 (s.trans s2) Q fun w H3 s3 d => q w H3 (s2.trans s3) d
    | false => exact h2 rfl H2 (s.trans s2) Q fun w H3 s3 d => q w H3 (s2.trans s3) d
end
end GF
set_option Elab.async false
set_option linter.all false
set_option maxRecDepth 100000
set_option maxHeartbeats 4000000
/-! comprehensions -/
namespace GF
open PySem PySem.Spec PySem.W PyProof.Rows L2
/-- a comprehension's block -/
abbrev Bk (X : Cx) (scope : Scope) (s : Shared) (H : Hp) (C : Addr) (cl : List (Str × Addr)) (fp : List Addr) : Cx := X.blk s H scope (compEnvC scope cl C X.env) fp
/-- the heap without D -/
def hid (H : Hp) (D : Addr) : Hp := fun a => if a = D then none else H a
theorem hid_same {H : Hp} {D : Addr} : Same (hid H D) H := fun a o h => by
  unfold hid at h
  split at h
  · cases h
  · exact h
theorem hid_mono {H H' : Hp} {D : Addr} (s : Same H H') : Same (hid H D) (hid H' D) := fun a o h => by
  unfold hid at h ⊢
  split at h
  · cases h
  · rename_i q
    rw [if_neg q]
    exact s a o h
theorem hid_upd {H : Hp} {D : Addr} {o : HO} : hid (upd H D o) D = hid H D := by
  funext a
  unfold hid upd
  split <;> rfl
theorem hid_none {H : Hp} {D : Addr} (h : H D = none) : hid H D = H := by
  funext a
  unfold hid
  split
  · rename_i e
    rw [e, h]
  · rfl
theorem hid_ne {H : Hp} {D a : Addr} (h : a ≠ D) : hid H D a = H a := if_neg h
/-- what holds no list -/
class NoList (β : Type) [DecidableEq β] [Datum β] : Prop where
  hid : ∀ {K : PySem.W.Frag} {H : Hp} {D : Addr} {ys : List V} {v : V} {x : β}, H D = some (.lst ys) → DD K H v x → DD K (hid H D) v x
theorem nolist_all {β : Type} [DecidableEq β] [Datum β] [NoList β] {K : PySem.W.Frag} {H : Hp} {D : Addr} {ys : List V} (h : H D = some (.lst ys)) : ∀ {vs : List V} {l : List β}, DDs K H vs l → DDs K (hid H D) vs l
  | _, [], d => by
    rw [dds_nil d]
    exact .nil
  | _, x :: l, d => by
    obtain ⟨v, vs, rfl, h1, h2⟩ := dds_cons d
    exact .cons (NoList.hid h h1) (nolist_all h h2)
theorem hid_t {K : PySem.W.Frag} {H : Hp} {D a : Addr} {ys xs : List V} (h : H D = some (.lst ys)) (s : SqT K H a xs) : SqT K (hid H D) a xs := by
  rcases s with (s | ⟨o, s⟩) | s
  · exact .inl (.inl ((hid_ne (ne_of s h (by intro z; cases z))).trans s))
  · exact .inl (.inr ⟨o, (hid_ne (ne_of s h (by intro z; cases z))).trans s⟩)
  · exact .inr s
instance : NoList Nat := ⟨fun _ d => by cases d; exact .int _⟩
instance : NoList Int := ⟨fun _ d => by cases d; exact .int _⟩
instance : NoList Bool := ⟨fun _ d => by cases d; exact .bl _⟩
instance {β : Type} [DecidableEq β] [Datum β] [NoList β] : NoList (Tup β) := ⟨fun h d => by
  obtain ⟨a, xs, rfl, h1, h2⟩ := dd_tup d
  exact .tup (hid_t h h1) (nolist_all h h2)⟩
instance {β γ : Type} [DecidableEq β] [Datum β] [NoList β] [DecidableEq γ] [Datum γ] [NoList γ] : NoList (β × γ) := ⟨fun h d => by
  obtain ⟨a, x, y, rfl, h1, h2, h3⟩ := dd_pair d
  exact .tup (hid_t h h1) (.cons (NoList.hid h h2) (.cons (NoList.hid h h3) .nil))⟩
section
variable {X : Cx}
/-- an element: it leans on no list that stood -/
def EE {β : Type} [DecidableEq β] [Datum β] (X : Cx) (e : Expr) (σ : L2.St) (H : Hp) (x : β) : Prop := ∀ H1, Same H H1 → ∀ D ys, H1 D = some (.lst ys) → ∀ Q : VK, (∀ v H2, Same H1 H2 → DD X.K (hid H2 D) v x → Q v H2) → RE X e σ H1 Q
theorem ee_of {β : Type} [DecidableEq β] [Datum β] [NoList β] {e : Expr} {σ : L2.St} {H : Hp} {x : β} (h : ED X e σ H x) : EE X e σ H x := fun H1 s D ys hD Q q => h H1 s Q fun v H2 s2 d => q v H2 s2 (NoList.hid (s2 D _ hD) d)
theorem ee_ofL {β : Type} [DecidableEq β] [Datum β] [NoList β] {e : Expr} {σ : L2.St} {H : Hp} {l : List β} (h : EL X e σ H fun ys H2 => DDs X.K H2 ys l) : EE X e σ H l := fun H1 s D ys hD Q q => h H1 s Q fun p xs H2 hp s2 h2 d => q _ H2 s2
  (.lst (SqL.of ((hid_ne (ne_of_none hD hp).symm).trans h2)) (nolist_all (s2 D _ hD) d))
theorem ed_ofEL {β : Type} [DecidableEq β] [Datum β] {e : Expr} {σ : L2.St} {H : Hp} {l : List β} (h : EL X e σ H fun ys H2 => DDs X.K H2 ys l) : ED X e σ H l := fun H1 s Q q => h H1 s Q fun p xs H2 hp s2 h2 d => q _ H2 s2 (dd_ofL (SqL.of h2) d)
def ETs (X : Cx) (ifs : List Expr) (σ : L2.St) (H : Hp) (b : Bool) : Prop := ∃ t, PTs X ifs t ∧ ∀ H1, Same H H1 → ∀ Q : Bool → Hp → Prop, (∀ H2, Same H1 H2 → Q b H2) → t σ H1 Q
theorem ets_nil {σ : L2.St} {H : Hp} : ETs X [] σ H true := ⟨_, pts_nil, fun H1 _ Q q => q H1 (Same.refl H1)⟩
theorem ets_one {c : Expr} {σ : L2.St} {H : Hp} {b : Bool} (h : ET X c σ H b) : ETs X [c] σ H b := ⟨_, pts_one pt_rt, fun H1 s Q q => h H1 s Q q⟩
/-- in every block -/
def teB (X : Cx) (scope : Scope) (elt : Expr) : TE := fun σ H Q => ∀ s H0 C cl fp, RE (Bk X scope s H0 C cl fp) elt σ H Q
theorem pe_teB {scope : Scope} {elt : Expr} {s : Shared} {H0 : Hp} {C : Addr} {cl : List (Str × Addr)} {fp : List Addr} : PE (Bk X scope s H0 C cl fp) elt (teB X scope elt) := ⟨fun pins s' σ H Q I h => h s H0 C cl fp pins s' I⟩
def RTS (X : Cx) (ifs : List Expr) : TT := fun σ H Q => ∃ t, PTs X ifs t ∧ t σ H Q
theorem pts_RTS {ifs : List Expr} : PTs X ifs (RTS X ifs) := ⟨fun pins s σ H Q I ⟨t, h, q⟩ => h.run pins s σ H Q I q⟩
def ttB (X : Cx) (scope : Scope) (ifs : List Expr) : TT := fun σ H Q => ∀ s H0 C cl fp, RTS (Bk X scope s H0 C cl fp) ifs σ H Q
theorem pts_ttB {scope : Scope} {ifs : List Expr} {s : Shared} {H0 : Hp} {C : Addr} {cl : List (Str × Addr)} {fp : List Addr} : PTs (Bk X scope s H0 C cl fp) ifs (ttB X scope ifs) :=
  ⟨fun pins s' σ H Q I h => by
    obtain ⟨t, k, q⟩ := h s H0 C cl fp
    exact k.run pins s' σ H Q I q⟩
variable {σ : L2.St} {H : Hp} {β : Type} [DecidableEq β] [Datum β] {α : Type}
theorem take_succ_at {xs : List α} {i : Nat} {x : α} (h : xs[i]? = some x) : xs.take (i + 1) = xs.take i ++ [x] := by
  rw [List.take_add_one, h]
  rfl
theorem fm_yes {xs : List α} {i : Nat} {x : α} {gs : α → Bool} {f : α → β} (h : xs[i]? = some x) (hg : gs x = true) : ((xs.take (i + 1)).filter gs).map f = ((xs.take i).filter gs).map f ++ [f x] := by
  rw [take_succ_at h, List.filter_append, List.map_append, List.filter_cons, if_pos hg]
  rfl
theorem fm_no {xs : List α} {i : Nat} {x : α} {gs : α → Bool} {f : α → β} (h : xs[i]? = some x) (hg : gs x = false) : ((xs.take (i + 1)).filter gs).map f = ((xs.take i).filter gs).map f := by
  rw [take_succ_at h, List.filter_append, List.map_append, List.filter_cons, if_neg (by rw [hg]; decide)]
  simp
/-- what a walk over iter gives, turn by turn: T x of the slots and the heap behind the target's store -/
def Src (X : Cx) (tg iter : Expr) (g : TG) (σ σw : L2.St) (H : Hp) (xs : List α) (T : α → L2.St → Hp → Prop) : Prop :=
  ∃ wi, PI X tg iter wi ∧ ∀ H1, Same H H1 → ∀ R : It → Hp → Prop,
    (∀ J G Y H2, Same H1 H2 → Walk J xs.length G Y → (∀ H3, Same H2 H3 → G H3) → (∀ i x H3 v H4, xs[i]? = some x → Same H2 H3 → Y i H3 v H4 → Same H3 H4 ∧ ∀ Q : L2.St → Hp → Prop, (∀ σ' H', Same H4 H' → T x σ' H' → Q σ' H') → g v σw H4 Q) → R J H2) → wi σ H1 R
/-- a comprehension that comes to a new list -/
def LC (X : Cx) (elt tg iter : Expr) (ifs : List Expr) (scope : Scope) (σ : L2.St) (H : Hp) (R : List V → Hp → Prop) : Prop :=
  X.calm = true ∧ X.N.Nodup ∧ ∃ wi g own, PI X tg iter wi ∧ BlkOk X.N X.env.scope scope own ∧ (∀ (s : Shared) (H : Hp) (C : Addr) (cl : List (Str × Addr)) (fp : List Addr), PG (Bk X scope s H C cl fp) tg g) ∧ (∀ x, foldedSetIterable iter X.env x = pure x) ∧
    ∀ H1, Same H H1 → ∀ Q : VK, (∀ p xs H2, H1 p = none → Same H1 H2 → H2 p = some (.lst xs) → R xs H2 → Q (.ref p) H2) → tLc wi g (ttB X scope ifs) (teB X scope elt) (own.map (·.2)) σ H1 Q
theorem el_of {tg iter elt : Expr} {ifs : List Expr} {scope : Scope} {pos : Pos} {R : List V → Hp → Prop} (h : LC X elt tg iter ifs scope σ H R) : EL X (.ListComp elt [⟨tg, iter, ifs, 0⟩] scope pos) σ H R := by
  obtain ⟨hc, hN, wi, g, own, pi, ok, hg, hs, q⟩ := h
  exact fun H1 s Q k => re_of (pe_lc hc hN pi ok hg (fun _ _ _ _ _ => pts_ttB) (fun _ _ _ _ _ => pe_teB) hs) (q H1 s Q k)
theorem ev_lc {tg iter elt : Expr} {ifs : List Expr} {scope : Scope} {g : TG} {own : List (Str × Nat)} {xs : List α} {T : α → L2.St → Hp → Prop} {gs : α → Bool} {f : α → β} (hc : X.calm = true) (hN : X.N.Nodup) (ok : BlkOk X.N X.env.scope scope own)
    (hg : ∀ (s : Shared) (H : Hp) (C : Addr) (cl : List (Str × Addr)) (fp : List Addr), PG (Bk X scope s H C cl fp) tg g) (hs : ∀ x, foldedSetIterable iter X.env x = pure x)
    (src : Src X tg iter g σ (wipe σ (own.map (·.2))) H xs T) (hz : xs.length < sizeLine) (hw : ∀ x σ' H', T x σ' H' → wipe σ' (own.map (·.2)) = wipe σ (own.map (·.2)))
    (ht : ∀ x σ' H1 s H0 C cl fp, x ∈ xs → Same H H1 → T x σ' H1 → ETs (Bk X scope s H0 C cl fp) ifs σ' H1 (gs x))
    (he : ∀ x σ' H1 s H0 C cl fp, x ∈ xs → gs x = true → Same H H1 → T x σ' H1 → EE (Bk X scope s H0 C cl fp) elt σ' H1 (f x))
    (hT : ∀ x σ' H1 H2, T x σ' H1 → Same H1 H2 → T x σ' H2) :
    LC X elt tg iter ifs scope σ H (fun ys H2 => DDs X.K H2 ys ((xs.filter gs).map f)) := by
  obtain ⟨wi, pi, src⟩ := src
  refine ⟨hc, hN, wi, g, own, pi, ok, hg, hs, ?_⟩
  intro H1 h1 Q q
  refine src H1 h1 _ fun J G Y H2 s2 wk hG hY D hD => ?_
  refine lc_it wk (fun i H' => Same H2 H' ∧ ∃ ys, H' D = some (.lst ys) ∧ DDs X.K (hid H' D) ys (((xs.take i).filter gs).map f)) ?_ (fun i H' _ p => hG H' p.1) ?_ ?_
  · exact ⟨same_new hD, [], upd_same, .nil⟩
  · intro i v H3 H4 hi ⟨s3, ys, hys, hd⟩ y
    have hx : xs[i]? = some xs[i] := List.getElem?_eq_getElem hi
    have hm : xs[i] ∈ xs := List.getElem_mem hi
    obtain ⟨s4, hY'⟩ := hY i _ H3 v H4 hx s3 y
    refine hY' _ fun σ' H' s' t => ⟨hw _ _ _ t, ?_⟩
    have sH' : Same H H' := (((h1.trans s2).trans s3).trans s4).trans s'
    intro s H0 C cl fp
    obtain ⟨tt, k1, k2⟩ := ht xs[i] σ' H' s H0 C cl fp hm sH' t
    refine ⟨tt, k1, k2 H' (Same.refl H') _ fun H5 s5 => ?_⟩
    have keep : ∀ {H6 : Hp}, Same H' H6 → H6 D = some (.lst ys) ∧ DDs X.K (hid H6 D) ys (((xs.take i).filter gs).map f) := fun s6 =>
      ⟨s6 D _ (s' D _ (s4 D _ hys)), dps_same (hid_mono ((s4.trans s').trans s6)) hd⟩
    cases hgx : gs xs[i] with
    | true =>
      rw [if_pos rfl]
      intro s0 H00 C0 cl0 fp0
      refine he xs[i] σ' H5 s0 H00 C0 cl0 fp0 hm hgx (sH'.trans s5) (hT _ _ _ _ t s5) H5 (Same.refl H5) D ys (keep s5).1 _ fun w H6 s6 dw => ?_
      obtain ⟨e6, d6⟩ := keep (s5.trans s6)
      have el := dds_length d6
      have hl : ys.length < sizeLine := by
        rw [el, List.length_map]
        refine Nat.lt_of_le_of_lt (List.length_filter_le _ _) ?_
        rw [List.length_take]
        exact Nat.lt_of_le_of_lt (Nat.min_le_right _ _) hz
      refine ⟨ys, e6, hl, same_mut ((((s3.trans s4).trans s').trans s5).trans s6) hD, ys ++ [w], upd_same, ?_⟩
      rw [fm_yes hx hgx, hid_upd]
      exact dds_append d6 (dds_one dw)
    | false =>
      rw [if_neg (by decide)]
      refine ⟨((s3.trans s4).trans s').trans s5, ys, (keep s5).1, ?_⟩
      rw [fm_no hx hgx]
      exact (keep s5).2
  · rintro H' ⟨s3, ys, hys, hd⟩
    rw [List.take_length] at hd
    exact q D ys H' (s2.free hD) (s2.trans s3) hys (dps_same hid_same hd)
end
end GF
set_option Elab.async false
set_option linter.all false
set_option maxRecDepth 100000
set_option maxHeartbeats 4000000
/-! comprehensions over lists, tuples, ranges, enumerate -/
namespace GF
open PySem PySem.Spec PySem.W PyProof.Rows L2
section
variable {X : Cx} {σ : L2.St} {H : Hp} {α β : Type} [DecidableEq α] [Datum α] [DecidableEq β] [Datum β] {elt iter a b : Expr} {ifs : List Expr} {scope : Scope} {pos px p : Pos} {nm : Str} {j : Nat}
theorem set_set' {σ : L2.St} {j : Nat} {x y : Option V} : (σ.set j x).set j y = σ.set j y := by simp
/-- what the element and the tests see -/
def Seen (X : Cx) (j : Nat) (σ : L2.St) (x : α) (σ' : L2.St) (H' : Hp) : Prop := ∃ v, σ' = σ.set j (some v) ∧ DD X.K H' v x
theorem src_list {xs : List α} {T : L2.St} (h : ED X iter σ H xs) (e : ∀ v, T.set j (some v) = σ.set j (some v)) : Src X (.Name nm px) iter (gName j) σ T H xs (Seen X j σ) := by
  refine ⟨_, pi_list pe_re, fun H1 s R k => h H1 s _ fun v H2 s2 d => ?_⟩
  obtain ⟨a, vs, rfl, h1, h2⟩ := dd_lst d
  refine ⟨a, rfl, ⟨vs, h1⟩, k _ _ _ H2 s2 (by rw [← dds_length h2]; exact walk_list) (fun H3 s3 => same_l s3 h1) fun i x H3 v H4 hx s3 y => ?_⟩
  obtain ⟨e1, hv⟩ := y
  subst e1
  obtain ⟨y, hy, dy⟩ := dds_at h2 hv
  rw [hx] at hy
  cases hy
  exact ⟨Same.refl _, fun Q q => q _ _ (Same.refl _) ⟨v, e v, dp_same s3 dy⟩⟩
theorem src_tup {xs : Tup α} {T : L2.St} (h : ED X iter σ H xs) (e : ∀ v, T.set j (some v) = σ.set j (some v)) : Src X (.Name nm px) iter (gName j) σ T H xs.items (Seen X j σ) := by
  refine ⟨_, pi_tup pe_re, fun H1 s R k => h H1 s _ fun v H2 s2 d => ?_⟩
  obtain ⟨a, vs, rfl, h1, h2⟩ := dd_tup d
  refine ⟨a, rfl, ⟨vs, h1⟩, k _ _ _ H2 s2 (by rw [← dds_length h2]; exact walk_tup) (fun H3 s3 => same_t s3 h1) fun i x H3 v H4 hx s3 y => ?_⟩
  obtain ⟨e1, hv⟩ := y
  subst e1
  obtain ⟨y, hy, dy⟩ := dds_at h2 hv
  rw [hx] at hy
  cases hy
  exact ⟨Same.refl _, fun Q q => q _ _ (Same.refl _) ⟨v, e v, dp_same s3 dy⟩⟩
theorem range_at {n i x : Nat} (h : (List.range n)[i]? = some x) : x = i := by
  have := (List.getElem?_eq_some_iff.mp h)
  obtain ⟨h1, h2⟩ := this
  simpa using h2.symm
theorem src_rng1 {n : Nat} {T : L2.St} (hB : Bls X.mg) (hg : Gl X "range") (h : ED X a σ H n) (hn : n ≤ 1000) (e : ∀ v, T.set j (some v) = σ.set j (some v)) (hs : starEach [a] X.env = [(false, eval a X.env)] := by rfl) (he : starEach [a] X.env = (false, eval a X.env) :: starEach [] X.env := by rfl) :
    Src X (.Name nm px) (.Call (.Name "range" p) [a] [] pos) (gName j) σ T H (List.range n) (Seen X j σ) := by
  refine ⟨_, pi_range1 hg hB.range (pa_cons pe_re pa_nil he) hs, fun H1 s R k => h H1 s _ fun v H2 s2 d => ?_⟩
  rw [dd_nat d]
  refine ⟨n, rfl, by omega, by omega, ?_⟩
  have e0 : ((n : Int) - 0).toNat = n := by omega
  show R (Itr 0 _) H2
  have w := walk_range (lo := 0) (n := n)
  refine k _ _ _ H2 s2 (by rw [List.length_range]; first | exact w | (rw [← e0]; exact walk_range)) (fun H3 s3 => trivial) fun i x H3 v H4 hx s3 y => ?_
  obtain ⟨e1, hv⟩ := y
  subst e1
  have hxi := range_at hx
  subst hxi
  subst hv
  refine ⟨Same.refl _, fun Q q => q _ _ (Same.refl _) ⟨_, e _, ?_⟩⟩
  show Dp _ _ (.int (0 + (x : Int))) (.int (x : Int))
  rw [Int.zero_add]
  exact .int _
/-- range(1, n) -/
theorem src_rng2 {n : Nat} {T : L2.St} (hB : Bls X.mg) (hg : Gl X "range") (ha : ED X a σ H (1 : Nat)) (h : ED X b σ H n) (hn : n ≤ 1000) (e : ∀ v, T.set j (some v) = σ.set j (some v)) (hs : starEach [a, b] X.env = [(false, eval a X.env), (false, eval b X.env)] := by rfl) (hs2 : starEach [b] X.env = [(false, eval b X.env)] := by rfl)
    (he : starEach [a, b] X.env = (false, eval a X.env) :: starEach [b] X.env := by rfl) (he2 : starEach [b] X.env = (false, eval b X.env) :: starEach [] X.env := by rfl) :
    Src X (.Name nm px) (.Call (.Name "range" p) [a, b] [] pos) (gName j) σ T H ((List.range (n - 1)).map (· + 1)) (Seen X j σ) := by
  refine ⟨_, pi_range2 hg hB.range (pa_cons pe_re (pa_cons pe_re pa_nil he2) he) hs hs2, fun H1 s R k => ha H1 s _ fun v H2 s2 d => h H2 (s.trans s2) _ fun u H3 s3 d3 => ?_⟩
  rw [dd_nat d, dd_nat d3]
  refine ⟨1, n, rfl, ⟨by omega, by omega, by omega, by omega⟩, ?_⟩
  have e0 : ((n : Int) - 1).toNat = n - 1 := by omega
  show R (Itr 1 _) H3
  rw [e0]
  refine k _ _ _ H3 (s2.trans s3) (by rw [List.length_map, List.length_range]; exact walk_range) (fun H3 s3 => trivial) fun i x H4 v H5 hx s4 y => ?_
  obtain ⟨e1, hv⟩ := y
  subst e1
  rw [List.getElem?_map] at hx
  cases hr : (List.range (n - 1))[i]? with
  | none =>
    rw [hr] at hx
    cases hx
  | some z =>
    rw [hr] at hx
    have hxi := range_at hr
    subst hxi
    cases hx
    subst hv
    refine ⟨Same.refl _, fun Q q => q _ _ (Same.refl _) ⟨_, e _, ?_⟩⟩
    show Dp _ _ (.int (1 + (z : Int))) (.int (((z + 1 : Nat) : Int)))
    have : (1 + (z : Int)) = ((z + 1 : Nat) : Int) := by omega
    rw [this]
    exact .int _
/-- the general end, for a target that is a name -/
theorem el_name {xs : List α} {gs : α → Bool} {f : α → β} (hc : X.calm = true) (hN : X.N.Nodup) (ok : BlkOk X.N X.env.scope scope [(nm, j)])
    (src : Src X (.Name nm px) iter (gName j) σ (wipe σ [j]) H xs (Seen X j σ)) (hz : xs.length < 10000000)
    (ht : ∀ x v H1 s H0 C cl fp, x ∈ xs → Same H H1 → DD X.K H1 v x → ETs (Bk X scope s H0 C cl fp) ifs (σ.set j (some v)) H1 (gs x))
    (he : ∀ x v H1 s H0 C cl fp, x ∈ xs → gs x = true → Same H H1 → DD X.K H1 v x → EE (Bk X scope s H0 C cl fp) elt (σ.set j (some v)) H1 (f x))
    (hg : ∀ (s : Shared) (H : Hp) (C : Addr) (cl : List (Str × Addr)) (fp : List Addr), PG (Bk X scope s H C cl fp) (.Name nm px) (gName j)) (hs : ∀ x, foldedSetIterable iter X.env x = pure x := by intro _; rfl) :
    LC X elt (.Name nm px) iter ifs scope σ H (fun ys H2 => DDs X.K H2 ys ((xs.filter gs).map f)) := by
  refine ev_lc (own := [(nm, j)]) hc hN ok hg hs src (Nat.lt_trans hz (by decide)) (fun x σ' H' t => ?_) (fun x σ' H1 s H0 C cl fp hx sm t => ?_) (fun x σ' H1 s H0 C cl fp hx hgx sm t => ?_) (fun x σ' H1 H2 t s => ?_)
  · obtain ⟨v, rfl, _⟩ := t
    show (σ.set j (some v)).set j none = σ.set j none
    rw [set_set']
  · obtain ⟨v, rfl, d⟩ := t
    exact ht x v H1 s H0 C cl fp hx sm d
  · obtain ⟨v, rfl, d⟩ := t
    exact he x v H1 s H0 C cl fp hx hgx sm d
  · obtain ⟨v, rfl, d⟩ := t
    exact ⟨v, rfl, dp_same s d⟩
theorem wipe1 {v : V} : (wipe σ [j]).set j (some v) = σ.set j (some v) := set_set'
theorem filter_tt {xs : List α} : xs.filter (fun _ => true) = xs := List.filter_eq_self.mpr fun _ _ => rfl

/-! [.. for x in l if ..] -/
theorem el_lcL {xs : List α} {gs : α → Bool} {f : α → β} (hc : X.calm = true) (hN : X.N.Nodup) (ok : BlkOk X.N X.env.scope scope [(nm, j)]) (h : ED X iter σ H xs) (hz : xs.length < 10000000)
    (ht : ∀ x v H1 s H0 C cl fp, x ∈ xs → Same H H1 → DD X.K H1 v x → ETs (Bk X scope s H0 C cl fp) ifs (σ.set j (some v)) H1 (gs x))
    (he : ∀ x v H1 s H0 C cl fp, x ∈ xs → gs x = true → Same H H1 → DD X.K H1 v x → EE (Bk X scope s H0 C cl fp) elt (σ.set j (some v)) H1 (f x))
    (hg : ∀ (s : Shared) (H : Hp) (C : Addr) (cl : List (Str × Addr)) (fp : List Addr), PG (Bk X scope s H C cl fp) (.Name nm px) (gName j)) (hs : ∀ x, foldedSetIterable iter X.env x = pure x := by intro _; rfl) :
    LC X elt (.Name nm px) iter ifs scope σ H (fun ys H2 => DDs X.K H2 ys ((xs.filter gs).map f)) := el_name hc hN ok (src_list h fun v => wipe1) hz ht he hg hs
theorem el_lcT {xs : Tup α} {gs : α → Bool} {f : α → β} (hc : X.calm = true) (hN : X.N.Nodup) (ok : BlkOk X.N X.env.scope scope [(nm, j)]) (h : ED X iter σ H xs) (hz : xs.items.length < 10000000)
    (ht : ∀ x v H1 s H0 C cl fp, x ∈ xs.items → Same H H1 → DD X.K H1 v x → ETs (Bk X scope s H0 C cl fp) ifs (σ.set j (some v)) H1 (gs x))
    (he : ∀ x v H1 s H0 C cl fp, x ∈ xs.items → gs x = true → Same H H1 → DD X.K H1 v x → EE (Bk X scope s H0 C cl fp) elt (σ.set j (some v)) H1 (f x))
    (hg : ∀ (s : Shared) (H : Hp) (C : Addr) (cl : List (Str × Addr)) (fp : List Addr), PG (Bk X scope s H C cl fp) (.Name nm px) (gName j)) (hs : ∀ x, foldedSetIterable iter X.env x = pure x := by intro _; rfl) :
    LC X elt (.Name nm px) iter ifs scope σ H (fun ys H2 => DDs X.K H2 ys ((xs.items.filter gs).map f)) := el_name hc hN ok (src_tup h fun v => wipe1) hz ht he hg hs
theorem el_lcR {n : Nat} {gs : Nat → Bool} {f : Nat → β} (hc : X.calm = true) (hN : X.N.Nodup) (hB : Bls X.mg) (hgl : Gl X "range") (ok : BlkOk X.N X.env.scope scope [(nm, j)]) (h : ED X a σ H n) (hz : n ≤ 1000)
    (ht : ∀ (x : Nat) v H1 s H0 C cl fp, x < n → Same H H1 → DD X.K H1 v x → ETs (Bk X scope s H0 C cl fp) ifs (σ.set j (some v)) H1 (gs x))
    (he : ∀ (x : Nat) v H1 s H0 C cl fp, x < n → gs x = true → Same H H1 → DD X.K H1 v x → EE (Bk X scope s H0 C cl fp) elt (σ.set j (some v)) H1 (f x))
    (hg : ∀ (s : Shared) (H : Hp) (C : Addr) (cl : List (Str × Addr)) (fp : List Addr), PG (Bk X scope s H C cl fp) (.Name nm px) (gName j)) (hs : ∀ x, foldedSetIterable (.Call (.Name "range" p) [a] [] pos) X.env x = pure x := by intro _; rfl)
    (hs1 : starEach [a] X.env = [(false, eval a X.env)] := by rfl) (he1 : starEach [a] X.env = (false, eval a X.env) :: starEach [] X.env := by rfl) :
    LC X elt (.Name nm px) (.Call (.Name "range" p) [a] [] pos) ifs scope σ H (fun ys H2 => DDs X.K H2 ys (((List.range n).filter gs).map f)) :=
  el_name hc hN ok (src_rng1 hB hgl h hz (fun v => wipe1) hs1 he1) (by rw [List.length_range]; omega) (fun x v H1 s H0 C cl fp hx => ht x v H1 s H0 C cl fp (List.mem_range.mp hx)) (fun x v H1 s H0 C cl fp hx => he x v H1 s H0 C cl fp (List.mem_range.mp hx)) hg hs
theorem el_lcR2 {n : Nat} {gs : Nat → Bool} {f : Nat → β} (hc : X.calm = true) (hN : X.N.Nodup) (hB : Bls X.mg) (hgl : Gl X "range") (ok : BlkOk X.N X.env.scope scope [(nm, j)]) (h1 : ED X a σ H (1 : Nat)) (h : ED X b σ H n) (hz : n ≤ 1000)
    (ht : ∀ (x : Nat) v H1 s H0 C cl fp, 1 ≤ x → x < n → Same H H1 → DD X.K H1 v x → ETs (Bk X scope s H0 C cl fp) ifs (σ.set j (some v)) H1 (gs x))
    (he : ∀ (x : Nat) v H1 s H0 C cl fp, 1 ≤ x → x < n → gs x = true → Same H H1 → DD X.K H1 v x → EE (Bk X scope s H0 C cl fp) elt (σ.set j (some v)) H1 (f x))
    (hg : ∀ (s : Shared) (H : Hp) (C : Addr) (cl : List (Str × Addr)) (fp : List Addr), PG (Bk X scope s H C cl fp) (.Name nm px) (gName j)) (hs : ∀ x, foldedSetIterable (.Call (.Name "range" p) [a, b] [] pos) X.env x = pure x := by intro _; rfl)
    (hs1 : starEach [a, b] X.env = [(false, eval a X.env), (false, eval b X.env)] := by rfl) (hs2 : starEach [b] X.env = [(false, eval b X.env)] := by rfl)
    (he1 : starEach [a, b] X.env = (false, eval a X.env) :: starEach [b] X.env := by rfl) (he2 : starEach [b] X.env = (false, eval b X.env) :: starEach [] X.env := by rfl) :
    LC X elt (.Name nm px) (.Call (.Name "range" p) [a, b] [] pos) ifs scope σ H (fun ys H2 => DDs X.K H2 ys ((((List.range (n - 1)).map (· + 1)).filter gs).map f)) := by
  have mem : ∀ x ∈ (List.range (n - 1)).map (· + 1), 1 ≤ x ∧ x < n := by
    intro x hx
    obtain ⟨y, hy, rfl⟩ := List.mem_map.mp hx
    have := List.mem_range.mp hy
    omega
  exact el_name hc hN ok (src_rng2 hB hgl h1 h hz (fun v => wipe1) hs1 hs2 he1 he2) (by rw [List.length_map, List.length_range]; omega) (fun x v H1 s H0 C cl fp hx => ht x v H1 s H0 C cl fp (mem x hx).1 (mem x hx).2) (fun x v H1 s H0 C cl fp hx => he x v H1 s H0 C cl fp (mem x hx).1 (mem x hx).2) hg hs
/-! [.. for i, x in enumerate(t)] -/
def Seen2 (X : Cx) (j1 j2 : Nat) (σ : L2.St) (x : Nat × α) (σ' : L2.St) (H' : Hp) : Prop := ∃ u v, σ' = (σ.set j1 (some u)).set j2 (some v) ∧ DD X.K H' u x.1 ∧ DD X.K H' v x.2
/-- the items with their places -/
def numd (xs : List α) : List (Nat × α) := (List.range xs.length).zip xs
theorem numd_at {xs : List α} {i : Nat} {p : Nat × α} (h : (numd xs)[i]? = some p) : p.1 = i ∧ xs[i]? = some p.2 := by
  unfold numd at h
  rw [List.getElem?_zip_eq_some] at h
  exact ⟨range_at h.1, h.2⟩
theorem numd_len {xs : List α} : (numd xs).length = xs.length := by
  unfold numd
  rw [List.length_zip, List.length_range]
  omega
theorem src_enumT {xs : Tup α} {T : L2.St} {n1 n2 : Str} {p1 p2 tpos epos : Pos} {kk j1 j2 : Nat} (hc : X.calm = true) (hB : Bls X.mg) (hgl : Gl X "enumerate") (h : ED X iter σ H xs) (e : ∀ u v, (T.set j1 (some u)).set j2 (some v) = (σ.set j1 (some u)).set j2 (some v)) (hs : starEach [iter] X.env = [(false, eval iter X.env)] := by rfl) (he : starEach [iter] X.env = (false, eval iter X.env) :: starEach [] X.env := by rfl) :
    Src X (.Tuple [.Name n1 p1, .Name n2 p2] kk tpos) (.Call (.Name "enumerate" p) [iter] [] epos) (gTup X.K 2 (gCons (gName j1) (gCons (gName j2) gNil))) σ T H (numd xs.items) (Seen2 X j1 j2 σ) := by
  refine ⟨_, pi_enumT hgl hB.enumerate (pa_cons pe_re pa_nil he) hs, fun H1 s R k => h H1 s _ fun v H2 s2 d => ?_⟩
  obtain ⟨a, vs, rfl, h1, h2⟩ := dd_tup d
  refine ⟨a, vs, rfl, h1, k _ _ _ H2 s2 (by rw [numd_len, ← dds_length h2]; exact walk_enumT) (fun H3 s3 => same_t s3 h1) fun i x H3 v H4 hx s3 y => ?_⟩
  obtain ⟨T', y1, y2, rfl, hT', rfl, z1, z2⟩ := y
  cases z1
  obtain ⟨w1, w2⟩ := numd_at hx
  obtain ⟨q, hq, dq⟩ := dds_at h2 z2
  rw [w2] at hq
  cases hq
  refine ⟨same_new hT', fun Q q => ⟨T', _, rfl, SqT.of upd_same, rfl, _, _, rfl, _, _, rfl, rfl, q _ _ (Same.refl _) ⟨_, _, e _ _, ?_, dp_same (s3.trans (same_new hT')) dq⟩⟩⟩
  rw [w1]
  exact .int _
theorem el_lcE {xs : Tup α} {n1 n2 : Str} {p1 p2 tpos epos : Pos} {kk j1 j2 : Nat} {gs : Nat × α → Bool} {f : Nat × α → β} (hc : X.calm = true) (hN : X.N.Nodup) (hB : Bls X.mg) (hgl : Gl X "enumerate") (hj : j1 ≠ j2) (ok : BlkOk X.N X.env.scope scope [(n1, j1), (n2, j2)]) (h : ED X iter σ H xs) (hz : xs.items.length < 10000000)
    (ht : ∀ x u v H1 s H0 C cl fp, x ∈ numd xs.items → Same H H1 → DD X.K H1 u x.1 → DD X.K H1 v x.2 → ETs (Bk X scope s H0 C cl fp) ifs ((σ.set j1 (some u)).set j2 (some v)) H1 (gs x))
    (he : ∀ x u v H1 s H0 C cl fp, x ∈ numd xs.items → gs x = true → Same H H1 → DD X.K H1 u x.1 → DD X.K H1 v x.2 → EE (Bk X scope s H0 C cl fp) elt ((σ.set j1 (some u)).set j2 (some v)) H1 (f x))
    (hg : ∀ (s : Shared) (H : Hp) (C : Addr) (cl : List (Str × Addr)) (fp : List Addr), PG (Bk X scope s H C cl fp) (.Tuple [.Name n1 p1, .Name n2 p2] kk tpos) (gTup X.K 2 (gCons (gName j1) (gCons (gName j2) gNil)))) (hs : ∀ x, foldedSetIterable (.Call (.Name "enumerate" p) [iter] [] epos) X.env x = pure x := by intro _; rfl)
    (hs1 : starEach [iter] X.env = [(false, eval iter X.env)] := by rfl) (he1 : starEach [iter] X.env = (false, eval iter X.env) :: starEach [] X.env := by rfl) :
    LC X elt (.Tuple [.Name n1 p1, .Name n2 p2] kk tpos) (.Call (.Name "enumerate" p) [iter] [] epos) ifs scope σ H (fun ys H2 => DDs X.K H2 ys (((numd xs.items).filter gs).map f)) := by
  have e : ∀ u v, ((wipe σ [j1, j2]).set j1 (some u)).set j2 (some v) = (σ.set j1 (some u)).set j2 (some v) := by
    intro u v
    show (((σ.set j2 none).set j1 none).set j1 (some u)).set j2 (some v) = _
    rw [set_set', List.set_comm _ _ hj.symm, set_set']
  refine ev_lc (own := [(n1, j1), (n2, j2)]) hc hN ok hg hs (src_enumT hc hB hgl h e hs1 he1) (by rw [numd_len]; exact Nat.lt_trans hz (by decide)) (fun x σ' H' t => ?_) (fun x σ' H1 s H0 C cl fp hx sm t => ?_) (fun x σ' H1 s H0 C cl fp hx hgx sm t => ?_) (fun x σ' H1 H2 t s => ?_)
  · obtain ⟨u, v, rfl, _⟩ := t
    show ((((σ.set j1 (some u)).set j2 (some v)).set j2 none).set j1 none) = (σ.set j2 none).set j1 none
    rw [set_set', List.set_comm _ _ hj, set_set']
  · obtain ⟨u, v, rfl, d1, d2⟩ := t
    exact ht x u v H1 s H0 C cl fp hx sm d1 d2
  · obtain ⟨u, v, rfl, d1, d2⟩ := t
    exact he x u v H1 s H0 C cl fp hx hgx sm d1 d2
  · obtain ⟨u, v, rfl, d1, d2⟩ := t
    exact ⟨u, v, rfl, dp_same s d1, dp_same s d2⟩
end
end GF
set_option Elab.async false
set_option linter.all false
set_option maxRecDepth 100000
set_option maxHeartbeats 4000000
/-! statements, defs -/
namespace GF
open PySem PySem.Spec PySem.W PyProof.Rows L2
section
variable {X : Cx} {σ : L2.St} {H H' : Hp} {α β : Type} [DecidableEq α] [Datum α] [DecidableEq β] [Datum β] {e a b c it : Expr} {st : Stmt} {sts body s1 s2 : List Stmt} {pos px p : Pos} {nm : Str} {j : Nat} {D : Ends}
theorem rb_nil (h : D.nx σ H) : RB X [] D σ H := rb_of pss_nil h
theorem rb_cons (h : RS X st { D with nx := RB X sts D } σ H) : RB X (st :: sts) D σ H := rb_of (pss_cons ps_rs pss_rb) h
theorem rb_one (h : RS X st D σ H) : RB X [st] D σ H := rb_of (pss_one ps_rs) h
theorem rs_ret {R : V → Hp → Prop} (h : EV X e σ H R) (k : ∀ v H1, Same H H1 → R v H1 → D.rt v H1) : RS X (.Return (some e) pos) D σ H := rs_of (ps_ret pe_re) (h H (Same.refl H) _ k)
theorem rs_expr {R : V → Hp → Prop} (h : EV X e σ H R) (k : ∀ v H1, Same H H1 → R v H1 → D.nx σ H1) (hs : swapsWith e none pos.line X.env = pure false := by rfl) : RS X (.Expr e pos) D σ H := rs_of (ps_expr pe_re hs) (h H (Same.refl H) _ k)
theorem rs_set (j : Nat) {R : V → Hp → Prop} {p' : Pos} (hN : X.N.Nodup) (h : EV X e σ H R) (k : ∀ v H1, Same H H1 → R v H1 → D.nx (σ.set j (some v)) H1) (hi : X.N[j]? = some nm := by rfl) (hx : Loc X.env.scope nm := by first | exact Or.inl rfl | exact Or.inr rfl) (hs : swapsWith e (some (.Name nm p')) pos.line X.env = pure false := by rfl)
    (hf : X.fn nm = true ∨ X.env.scope.names.lookup nm = some .local := by first | exact .inl rfl | exact .inr rfl) : RS X (.Assign [.Name nm p'] e pos) D σ H := rs_of (ps_set hN hi hx pe_re hs hf) (h H (Same.refl H) _ k)
theorem rs_setL (j : Nat) {R : List V → Hp → Prop} {p' : Pos} (hN : X.N.Nodup) (h : EL X e σ H R) (k : ∀ l xs H1, H l = none → Same H H1 → H1 l = some (.lst xs) → R xs H1 → D.nx (σ.set j (some (.ref l))) H1) (hi : X.N[j]? = some nm := by rfl) (hx : Loc X.env.scope nm := by first | exact Or.inl rfl | exact Or.inr rfl) (hs : swapsWith e (some (.Name nm p')) pos.line X.env = pure false := by rfl)
    (hf : X.fn nm = true ∨ X.env.scope.names.lookup nm = some .local := by first | exact .inl rfl | exact .inr rfl) : RS X (.Assign [.Name nm p'] e pos) D σ H := rs_of (ps_set hN hi hx pe_re hs hf) (h H (Same.refl H) _ fun l xs H1 q1 q2 q3 q4 => k l xs H1 q1 q2 q3 q4)
/-- y = [.. for ..], y a local -/
theorem rs_setLc (j : Nat) {elt tg iter : Expr} {ifs : List Expr} {scope : Scope} {R : List V → Hp → Prop} {p' pos' : Pos} (h : LC X elt tg iter ifs scope σ H R) (k : ∀ l xs H1, H l = none → Same H H1 → H1 l = some (.lst xs) → R xs H1 → D.nx (σ.set j (some (.ref l))) H1)
    (hi : X.N[j]? = some nm := by rfl) (hyl : X.env.scope.names.lookup nm = some .local := by rfl)
    (hsw : swapsWith (.ListComp elt [⟨tg, iter, ifs, 0⟩] scope pos') (some (.Name nm p')) pos.line X.env = pure true := by exact sw_true rfl rfl rfl (by decide +kernel)) : RS X (.Assign [.Name nm p'] (.ListComp elt [⟨tg, iter, ifs, 0⟩] scope pos') pos) D σ H := by
  obtain ⟨hc, hN, wi, g, own, pi, ok, hg, hs, q⟩ := h
  exact rs_of (ps_setLc hc hN hi hyl hsw pi ok hg (fun _ _ _ _ _ => pts_ttB) (fun _ _ _ _ _ => pe_teB) hs) (q H (Same.refl H) _ fun l xs H1 q1 q2 q3 q4 => k l xs H1 q1 q2 q3 q4)
theorem el_nil : EL X (.List [] pos) σ H fun ys H2 => ys = [] := fun H1 _ Q q => re_of (pe_lst pa_nil) ⟨Nat.zero_le _, fun p hp => q p [] _ hp (same_new hp) upd_same rfl⟩
theorem el_lst {es : List Expr} {xs : List α} {ds : List PyData} (h : EA X es σ H ds) (q : ds = xs.map Datum.toD) (hz : xs.length ≤ 1000) : EL X (.List es pos) σ H fun ys H2 => DDs X.K H2 ys xs := fun H1 hh Q k => re_of (pe_lst pa_ra) (h H1 hh _ fun vs H2 s2 d => by
  subst q
  have hl := dds_length d
  exact ⟨sz1000 (by rw [hl]; exact hz), fun pn hpn => k pn vs _ (s2.free hpn) (s2.trans (same_new hpn)) upd_same (dps_same (same_new hpn) d)⟩)
theorem rs_if {k : Bool} (h : ET X c σ H k) (h1 : k = true → ∀ H1, Same H H1 → RB X s1 D σ H1) (h2 : k = false → ∀ H1, Same H H1 → RB X s2 D σ H1) : RS X (.If c s1 s2 pos) D σ H := rs_of (ps_if pt_rt pss_rb pss_rb) (h H (Same.refl H) _ fun H1 s => by
  cases k with
  | true => exact h1 rfl H1 s
  | false => exact h2 rfl H1 s)
/-- an if whose branch is not taken -/
theorem rs_ifF (h : ET X c σ H false) (h2 : ∀ H1, Same H H1 → RB X s2 D σ H1) : RS X (.If c s1 s2 pos) D σ H := rs_if h (fun e => by cases e) fun _ => h2
theorem rs_ifT (h : ET X c σ H true) (h1 : ∀ H1, Same H H1 → RB X s1 D σ H1) : RS X (.If c s1 s2 pos) D σ H := rs_if h (fun _ => h1) fun e => by cases e
theorem rs_aug (j : Nat) {i k : Int} {p' : Pos} (hN : X.N.Nodup) (hσ : σ[j]? = some (some (.int i))) (h : ED X e σ H k) (hk : ∀ H1, Same H H1 → D.nx (σ.set j (some (.int (i + k)))) H1) (hi : X.N[j]? = some nm := by rfl) (hx : Loc X.env.scope nm := by first | exact Or.inl rfl | exact Or.inr rfl)
    (hf : X.fn nm = true ∨ X.env.scope.names.lookup nm = some .local := by first | exact .inl rfl | exact .inr rfl) : RS X (.AugAssign (.Name nm p') .Add e pos) D σ H := rs_of (ps_aug hN hi hx pe_re ip_add hf) ⟨_, hσ, h H (Same.refl H) _ fun v H1 s d => ⟨i, k, rfl, dd_int d, hk H1 s⟩⟩
/-! lists that are changed -/
theorem rs_append (j : Nat) {l : Addr} {xs : List V} {x : α} {apos cpos p' : Pos} (hσ : σ[j]? = some (some (.ref l))) (hH : H l = some (.lst xs)) (he : EE X e σ H x) (hz : xs.length < 16000000) (k : ∀ v H1, Same H H1 → DD X.K (hid H1 l) v x → D.nx σ (upd H1 l (.lst (xs ++ [v]))))
    (hN : X.N[j]? = some nm := by rfl) (hv : Vis X.env.scope nm := by first | exact Or.inl rfl | exact Or.inr (Or.inl rfl) | exact Or.inr (Or.inr rfl)) (hd : (nm == ("__debug__" : Str)) = false := by decide) (hcd : (nm == ("__classdict__" : Str)) = false := by decide)
    (hsa : starEach [e] X.env = (false, eval e X.env) :: starEach [] X.env := by rfl)
    (hpe : ∀ {t : TA}, PA X [e] t → PE X (.Call (.Attribute (.Name nm p') "append" apos) [e] [] cpos) (tBM X.K "list" rAppend (tVar j) t) := by intro t ht; exact pe_bm PySem.F.plainAttrs_list PySem.F.slot_list_append PySem.F.type_list_append mt_append (pv _) ht)
    (hs : swapsWith (.Call (.Attribute (.Name nm p') "append" apos) [e] [] cpos) none pos.line X.env = pure false := by rfl) :
    RS X (.Expr (.Call (.Attribute (.Name nm p') "append" apos) [e] [] cpos) pos) D σ H := by
  refine rs_of (ps_expr (hpe (pa_cons pe_re pa_nil hsa)) hs) ?_
  refine ⟨_, hσ, .inl ⟨rfl, _, SqL.of hH⟩, he H (Same.refl H) l xs hH _ fun v H1 s d => ⟨l, xs, v, rfl, rfl, s l _ hH, Nat.lt_trans hz (by decide), k v H1 s d⟩⟩
theorem rs_extend (j : Nat) {l : Addr} {xs : List V} {ys : List α} {apos cpos p' : Pos} (hσ : σ[j]? = some (some (.ref l))) (hH : H l = some (.lst xs)) (he : EL X e σ H fun zs H2 => DDs X.K H2 zs ys) (hz : xs.length + ys.length ≤ 16000000) (k : ∀ zs H1, Same H H1 → DDs X.K H1 zs ys → D.nx σ (upd H1 l (.lst (xs ++ zs))))
    (hN : X.N[j]? = some nm := by rfl) (hv : Vis X.env.scope nm := by first | exact Or.inl rfl | exact Or.inr (Or.inl rfl) | exact Or.inr (Or.inr rfl)) (hd : (nm == ("__debug__" : Str)) = false := by decide) (hcd : (nm == ("__classdict__" : Str)) = false := by decide)
    (hsa : starEach [e] X.env = (false, eval e X.env) :: starEach [] X.env := by rfl)
    (hpe : ∀ {t : TA}, PA X [e] t → PE X (.Call (.Attribute (.Name nm p') "extend" apos) [e] [] cpos) (tBM X.K "list" rExtend (tVar j) t) := by intro t ht; exact pe_bm PySem.F.plainAttrs_list PySem.F.slot_list_extend PySem.F.type_list_extend mt_extend (pv _) ht)
    (hs : swapsWith (.Call (.Attribute (.Name nm p') "extend" apos) [e] [] cpos) none pos.line X.env = pure false := by rfl) :
    RS X (.Expr (.Call (.Attribute (.Name nm p') "extend" apos) [e] [] cpos) pos) D σ H := by
  refine rs_of (ps_expr (hpe (pa_cons pe_re pa_nil hsa)) hs) ?_
  refine ⟨_, hσ, .inl ⟨rfl, _, SqL.of hH⟩, he H (Same.refl H) _ fun q zs H1 _ s hq d => ⟨l, q, xs, zs, rfl, rfl, s l _ hH, hq, ?_, k zs H1 s d⟩⟩
  rw [dds_length d]
  exact Nat.le_trans hz (by decide)
/-! loops -/
/-- for x in l, a list -/
theorem rs_forL {R : V → Hp → Prop} {xs : List α} (hp : PassesOwn (model X.prog X.w) X.A X.env X.xe) (hc : X.calm = true) (hi : EV X it σ H R) (hg : PG X (.Name nm px) (gName j))
    (k : ∀ v H1, Same H H1 → R v H1 → ∃ (H0 : Hp) (P : Nat → L2.St → Hp → Prop), DD X.K H0 v xs ∧ P 0 σ H1 ∧ (∀ i σ' H', P i σ' H' → Same H0 H') ∧
      (∀ i x u σ' H', xs[i]? = some x → P i σ' H' → DD X.K H' u x → RB X body { D with nx := P (i + 1), ct := P (i + 1), bk := D.nx } (σ'.set j (some u)) H') ∧ (∀ σ' H', P xs.length σ' H' → D.nx σ' H'))
    (hs : ∀ x, foldedSetIterable it X.env x = pure x := by intro _; rfl) : RS X (.For (.Name nm px) it body [] pos) D σ H := by
  refine rs_of (ps_for hp hc (pi_list pe_re) hg pss_rb hs) (hi H (Same.refl H) _ fun v H1 s r => ?_)
  obtain ⟨H0, P, dv, p0, pk, ps, pd⟩ := k v H1 s r
  obtain ⟨a, vs, rfl, h1, h2⟩ := dd_lst dv
  refine ⟨a, rfl, ⟨vs, same_l (pk 0 σ H1 p0) h1⟩, for_list (K := X.K) (a := a) (xs := vs) P p0 (fun i σ' H' _ p => same_l (pk i σ' H' p) h1) (fun i v σ' H' hv p => ?_) (fun σ' H' p => pd σ' H' (by rw [← dds_length h2]; exact p))⟩
  obtain ⟨x, hx, dx⟩ := dds_at h2 hv
  exact ps i x v σ' H' hx p (dp_same (pk i σ' H' p) dx)
theorem rs_forT {R : V → Hp → Prop} {xs : Tup α} (hp : PassesOwn (model X.prog X.w) X.A X.env X.xe) (hc : X.calm = true) (hi : EV X it σ H R) (hg : PG X (.Name nm px) (gName j))
    (k : ∀ v H1, Same H H1 → R v H1 → ∃ (H0 : Hp) (P : Nat → L2.St → Hp → Prop), DD X.K H0 v xs ∧ P 0 σ H1 ∧ (∀ i σ' H', P i σ' H' → Same H0 H') ∧
      (∀ i x u σ' H', xs.items[i]? = some x → P i σ' H' → DD X.K H' u x → RB X body { D with nx := P (i + 1), ct := P (i + 1), bk := D.nx } (σ'.set j (some u)) H') ∧ (∀ σ' H', P xs.items.length σ' H' → D.nx σ' H'))
    (hs : ∀ x, foldedSetIterable it X.env x = pure x := by intro _; rfl) : RS X (.For (.Name nm px) it body [] pos) D σ H := by
  refine rs_of (ps_for hp hc (pi_tup pe_re) hg pss_rb hs) (hi H (Same.refl H) _ fun v H1 s r => ?_)
  obtain ⟨H0, P, dv, p0, pk, ps, pd⟩ := k v H1 s r
  obtain ⟨a, vs, rfl, h1, h2⟩ := dd_tup dv
  refine ⟨a, rfl, ⟨vs, same_t (pk 0 σ H1 p0) h1⟩, for_tup (K := X.K) (a := a) (xs := vs) P p0 (fun i σ' H' _ p => same_t (pk i σ' H' p) h1) (fun i v σ' H' hv p => ?_) (fun σ' H' p => pd σ' H' (by rw [← dds_length h2]; exact p))⟩
  obtain ⟨x, hx, dx⟩ := dds_at h2 hv
  exact ps i x v σ' H' hx p (dp_same (pk i σ' H' p) dx)
theorem rs_forR {n : Nat} (hp : PassesOwn (model X.prog X.w) X.A X.env X.xe) (hc : X.calm = true) (hB : Bls X.mg) (hgl : Gl X "range") (h : ED X a σ H n) (hn : n ≤ 100000) (hg : PG X (.Name nm px) (gName j)) (P : Nat → L2.St → Hp → Prop) (p0 : ∀ H1, Same H H1 → P 0 σ H1)
    (ps : ∀ i σ' H', i < n → P i σ' H' → RB X body { D with nx := P (i + 1), ct := P (i + 1), bk := D.nx } (σ'.set j (some (.int (i : Int)))) H') (pd : ∀ σ' H', P n σ' H' → D.nx σ' H')
    (hs : ∀ x, foldedSetIterable (.Call (.Name "range" p) [a] [] pos) X.env x = pure x := by intro _; rfl) (hs1 : starEach [a] X.env = [(false, eval a X.env)] := by rfl) (he1 : starEach [a] X.env = (false, eval a X.env) :: starEach [] X.env := by rfl) {pos' : Pos} :
    RS X (.For (.Name nm px) (.Call (.Name "range" p) [a] [] pos) body [] pos') D σ H := by
  refine rs_of (ps_for hp hc (pi_range1 hgl hB.range (pa_cons pe_re pa_nil he1) hs1) hg pss_rb hs) (h H (Same.refl H) _ fun v H1 s d => ?_)
  rw [dd_nat d]
  refine ⟨n, rfl, by omega, by omega, ?_⟩
  have e0 : ((n : Int) - 0).toNat = n := by omega
  have r := for_range (lo := 0) (n := n) (g := gName j) (tb := RB X body) (D := D) P (p0 H1 s) (fun i σ' H' hi p => by
    show RB X body _ (σ'.set j (some (.int (0 + (i : Int))))) H'
    rw [Int.zero_add]
    exact ps i σ' H' hi p) pd
  first
    | exact r
    | (rw [e0]; exact r)
theorem rs_forR2 {m n : Nat} (hp : PassesOwn (model X.prog X.w) X.A X.env X.xe) (hc : X.calm = true) (hB : Bls X.mg) (hgl : Gl X "range") (h1 : ED X a σ H m) (h : ED X b σ H n) (hm : m ≤ 100000) (hn : n ≤ 100000) (hg : PG X (.Name nm px) (gName j)) (P : Nat → L2.St → Hp → Prop) (p0 : ∀ H1, Same H H1 → P 0 σ H1)
    (ps : ∀ i σ' H', i < n - m → P i σ' H' → RB X body { D with nx := P (i + 1), ct := P (i + 1), bk := D.nx } (σ'.set j (some (.int ((m + i : Nat) : Int)))) H') (pd : ∀ σ' H', P (n - m) σ' H' → D.nx σ' H')
    (hs : ∀ x, foldedSetIterable (.Call (.Name "range" p) [a, b] [] pos) X.env x = pure x := by intro _; rfl) (hs1 : starEach [a, b] X.env = [(false, eval a X.env), (false, eval b X.env)] := by rfl) (hs2 : starEach [b] X.env = [(false, eval b X.env)] := by rfl)
    (he1 : starEach [a, b] X.env = (false, eval a X.env) :: starEach [b] X.env := by rfl) (he2 : starEach [b] X.env = (false, eval b X.env) :: starEach [] X.env := by rfl) {pos' : Pos} :
    RS X (.For (.Name nm px) (.Call (.Name "range" p) [a, b] [] pos) body [] pos') D σ H := by
  refine rs_of (ps_for hp hc (pi_range2 hgl hB.range (pa_cons pe_re (pa_cons pe_re pa_nil he2) he1) hs1 hs2) hg pss_rb hs) (h1 H (Same.refl H) _ fun v H1 s d => h H1 s _ fun u H2 s2 d2 => ?_)
  rw [dd_nat d, dd_nat d2]
  refine ⟨m, n, rfl, ⟨by omega, by omega, by omega, by omega⟩, ?_⟩
  have e0 : ((n : Int) - (m : Int)).toNat = n - m := by omega
  rw [e0]
  exact for_range (lo := (m : Int)) (n := n - m) (g := gName j) (tb := RB X body) (D := D) P (p0 H2 (s.trans s2)) (fun i σ' H' hi p => by
    show RB X body _ (σ'.set j (some (.int ((m : Int) + (i : Int))))) H'
    have e : ((m : Int) + (i : Int)) = ((m + i : Nat) : Int) := by omega
    rw [e]
    exact ps i σ' H' hi p) pd
/-- for i in range(m, -1, -1) -/
theorem rs_forD {m k3 : Int} {n : Nat} {c3 : Expr} (hp : PassesOwn (model X.prog X.w) X.A X.env X.xe) (hc : X.calm = true) (hB : Bls X.mg) (hgl : Gl X "range") (h1 : ED X a σ H (n : Int)) (h2 : ED X b σ H (-1 : Int)) (h3 : ED X c3 σ H (-1 : Int)) (hn : n ≤ 100000) (hg : PG X (.Name nm px) (gName j)) (P : Nat → L2.St → Hp → Prop) (p0 : ∀ H1, Same H H1 → P 0 σ H1)
    (ps : ∀ i σ' H', i < n + 1 → P i σ' H' → RB X body { D with nx := P (i + 1), ct := P (i + 1), bk := D.nx } (σ'.set j (some (.int ((n : Int) - (i : Int))))) H') (pd : ∀ σ' H', P (n + 1) σ' H' → D.nx σ' H')
    (hs : ∀ x, foldedSetIterable (.Call (.Name "range" p) [a, b, c3] [] pos) X.env x = pure x := by intro _; rfl) (he1 : starEach [a, b, c3] X.env = (false, eval a X.env) :: starEach [b, c3] X.env := by rfl) (he2 : starEach [b, c3] X.env = (false, eval b X.env) :: starEach [c3] X.env := by rfl) (he3 : starEach [c3] X.env = (false, eval c3 X.env) :: starEach [] X.env := by rfl)
    (hpl : (backTo pos (starEach [b, c3] X.env)).any (·.1) = false := by rfl) {pos' : Pos} :
    RS X (.For (.Name nm px) (.Call (.Name "range" p) [a, b, c3] [] pos) body [] pos') D σ H := by
  refine rs_of (ps_for hp hc (pi_range3 hgl hB.range (pa_cons pe_re (pa_cons pe_re (pa_cons pe_re pa_nil he3) he2) he1) he1 hpl) hg pss_rb hs) (h1 H (Same.refl H) _ fun v H1 s d => h2 H1 s _ fun u H2 s2 d2 => h3 H2 (s.trans s2) _ fun w H3 s3 d3 => ?_)
  rw [dd_int d, dd_int d2, dd_int d3]
  have e0 : ((n : Int) - (-1)).toNat = n + 1 := by omega
  refine ⟨n, -1, -1, n + 1, rfl, by rw [← e0]; exact RgC.neg (by omega) (by omega) (by omega) (by omega), ?_⟩
  exact for_it (walk_rangeC (lo := (n : Int)) (c := -1) (n := n + 1)) (g := gName j) (tb := RB X body) (D := D) P (p0 H3 ((s.trans s2).trans s3)) (fun _ _ _ _ _ => trivial) (fun i x σ' H' H'' hi p y => by
    obtain ⟨y1, y2⟩ := y
    subst y1
    subst y2
    show RB X body _ (σ'.set j (some (.int ((n : Int) + (i : Int) * -1)))) _
    have e : ((n : Int) + (i : Int) * -1) = (n : Int) - (i : Int) := by omega
    rw [e]
    exact ps i σ' _ hi p) pd
/-- for i, x in enumerate(t), enumerate(l) -/
theorem rs_forET {R : V → Hp → Prop} {xs : Tup α} {n1 n2 : Str} {p1 p2 tpos epos : Pos} {kk j1 j2 : Nat} (hp : PassesOwn (model X.prog X.w) X.A X.env X.xe) (hc : X.calm = true) (hB : Bls X.mg) (hgl : Gl X "enumerate") (hi : EV X it σ H R) (hg : PG X (.Tuple [.Name n1 p1, .Name n2 p2] kk tpos) (gTup X.K 2 (gCons (gName j1) (gCons (gName j2) gNil))))
    (k : ∀ v H1, Same H H1 → R v H1 → ∃ (H0 : Hp) (P : Nat → L2.St → Hp → Prop), DD X.K H0 v xs ∧ P 0 σ H1 ∧ (∀ i σ' H', P i σ' H' → Same H0 H') ∧
      (∀ i x u σ' H' H'', xs.items[i]? = some x → P i σ' H' → Same H' H'' → DD X.K H'' u x → RB X body { D with nx := P (i + 1), ct := P (i + 1), bk := D.nx } ((σ'.set j1 (some (.int (i : Int)))).set j2 (some u)) H'') ∧ (∀ σ' H', P xs.items.length σ' H' → D.nx σ' H'))
    (hs : ∀ x, foldedSetIterable (.Call (.Name "enumerate" p) [it] [] epos) X.env x = pure x := by intro _; rfl) (hs1 : starEach [it] X.env = [(false, eval it X.env)] := by rfl) (he1 : starEach [it] X.env = (false, eval it X.env) :: starEach [] X.env := by rfl) :
    RS X (.For (.Tuple [.Name n1 p1, .Name n2 p2] kk tpos) (.Call (.Name "enumerate" p) [it] [] epos) body [] pos) D σ H := by
  refine rs_of (ps_for hp hc (pi_enumT hgl hB.enumerate (pa_cons pe_re pa_nil he1) hs1) hg pss_rb hs) (hi H (Same.refl H) _ fun v H1 s r => ?_)
  obtain ⟨H0, P, dv, p0, pk, ps, pd⟩ := k v H1 s r
  obtain ⟨a, vs, rfl, h1, h2⟩ := dd_tup dv
  refine ⟨a, vs, rfl, same_t (pk 0 σ H1 p0) h1, for_it (walk_enumT (K := X.K) (a := a) (xs := vs)) P p0 (fun i σ' H' _ p => same_t (pk i σ' H' p) h1) (fun i v σ' H' H'' hi p y => ?_) (fun σ' H' p => pd σ' H' (by rw [← dds_length h2]; exact p))⟩
  obtain ⟨T', y1, y2, rfl, hT', rfl, z1, z2⟩ := y
  cases z1
  obtain ⟨x, hx, dx⟩ := dds_at h2 z2
  exact ⟨T', _, rfl, SqT.of upd_same, rfl, _, _, rfl, _, _, rfl, rfl, ps i x _ σ' H' _ hx p (same_new hT') (dp_same ((pk i σ' H' p).trans (same_new hT')) dx)⟩
theorem rs_forEL {R : V → Hp → Prop} {xs : List α} {n1 n2 : Str} {p1 p2 tpos epos : Pos} {kk j1 j2 : Nat} (hp : PassesOwn (model X.prog X.w) X.A X.env X.xe) (hc : X.calm = true) (hB : Bls X.mg) (hgl : Gl X "enumerate") (hi : EV X it σ H R) (hg : PG X (.Tuple [.Name n1 p1, .Name n2 p2] kk tpos) (gTup X.K 2 (gCons (gName j1) (gCons (gName j2) gNil))))
    (k : ∀ v H1, Same H H1 → R v H1 → ∃ (H0 : Hp) (P : Nat → L2.St → Hp → Prop), DD X.K H0 v xs ∧ P 0 σ H1 ∧ (∀ i σ' H', P i σ' H' → Same H0 H') ∧
      (∀ i x u T ys σ' H', xs[i]? = some x → P i σ' H' → H' T = none → DD X.K H' u x → RB X body { D with nx := P (i + 1), ct := P (i + 1), bk := D.nx } ((σ'.set j1 (some (.int (i : Int)))).set j2 (some u)) (upd H' T (.tup ys))) ∧ (∀ σ' H', P xs.length σ' H' → D.nx σ' H'))
    (hs : ∀ x, foldedSetIterable (.Call (.Name "enumerate" p) [it] [] epos) X.env x = pure x := by intro _; rfl) (hs1 : starEach [it] X.env = [(false, eval it X.env)] := by rfl) (he1 : starEach [it] X.env = (false, eval it X.env) :: starEach [] X.env := by rfl) :
    RS X (.For (.Tuple [.Name n1 p1, .Name n2 p2] kk tpos) (.Call (.Name "enumerate" p) [it] [] epos) body [] pos) D σ H := by
  refine rs_of (ps_for hp hc (pi_enum hgl hB.enumerate (pa_cons pe_re pa_nil he1) hs1) hg pss_rb hs) (hi H (Same.refl H) _ fun v H1 s r => ?_)
  obtain ⟨H0, P, dv, p0, pk, ps, pd⟩ := k v H1 s r
  obtain ⟨a, vs, rfl, h1, h2⟩ := dd_lst dv
  refine ⟨a, vs, rfl, same_l (pk 0 σ H1 p0) h1, for_it (walk_enum (K := X.K) (a := a) (xs := vs)) P p0 (fun i σ' H' _ p => same_l (pk i σ' H' p) h1) (fun i v σ' H' H'' hi p y => ?_) (fun σ' H' p => pd σ' H' (by rw [← dds_length h2]; exact p))⟩
  obtain ⟨T', y1, y2, rfl, hT', rfl, z1, z2⟩ := y
  cases z1
  obtain ⟨x, hx, dx⟩ := dds_at h2 z2
  exact ⟨T', _, rfl, SqT.of upd_same, rfl, _, _, rfl, _, _, rfl, rfl, ps i x _ T' _ σ' H' hx p hT' (dp_same (pk i σ' H' p) dx)⟩
theorem rs_while {sb : List Stmt} (hp : PassesOwn (model X.prog X.w) X.A X.env X.xe) (W : Nat → L2.St → Hp → Prop) (m0 : Nat) (h0 : W m0 σ H)
    (hs : ∀ m σ' H', W m σ' H' → ∃ k, ET X c σ' H' k ∧ (k = true → ∀ H1, Same H' H1 → RB X sb { D with nx := fun σ2 H2 => ∃ m', m' < m ∧ W m' σ2 H2, ct := fun σ2 H2 => ∃ m', m' < m ∧ W m' σ2 H2, bk := D.nx } σ' H1) ∧ (k = false → ∀ H1, Same H' H1 → D.nx σ' H1)) :
    RS X (.While c sb [] pos) D σ H := by
  refine rs_of (ps_while hp pt_rt pss_rb) ⟨W, ⟨m0, h0⟩, fun m σ' H' w => ?_⟩
  obtain ⟨k, e, h1, h2⟩ := hs m σ' H' w
  refine e H' (Same.refl H') _ fun H1 s => ?_
  cases k with
  | true => exact ⟨_, fun σ2 H2 q => q, h1 rfl H1 s⟩
  | false => exact h2 rfl H1 s
/-- more is wanted, less is shown -/
theorem rb_imp {D D' : Ends} (h : RB X sts D σ H) (h1 : ∀ σ H, D.nx σ H → D'.nx σ H) (h2 : ∀ v H, D.rt v H → D'.rt v H) (h3 : ∀ σ H, D.bk σ H → D'.bk σ H) (h4 : ∀ σ H, D.ct σ H → D'.ct σ H) : RB X sts D' σ H := fun pins s I => thn (h pins s I) fun f s' q => by
  cases f with
  | next => obtain ⟨σ', H', I', q⟩ := q; exact ⟨σ', H', I', h1 _ _ q⟩
  | brk => obtain ⟨σ', H', I', q⟩ := q; exact ⟨σ', H', I', h3 _ _ q⟩
  | cont => obtain ⟨σ', H', I', q⟩ := q; exact ⟨σ', H', I', h4 _ _ q⟩
  | ret u => obtain ⟨v, σ', H', I', r, q⟩ := q; exact ⟨v, σ', H', I', r, h2 _ _ q⟩
end
/-! defs -/
section
variable {P : Program} {w : World} {K : PySem.W.Frag} {mg : Str → Option Value} {base : Heap}
/-- what a body is to come to: R of what is handed back, what stood stands -/
abbrev Rt (H : Hp) (R : V → Hp → Prop) : Ends := { nx := fun _ H' => Same H H' ∧ R .non H', rt := fun v H' => Same H H' ∧ R v H' }
theorem fn_of {nm : Str} {args : Arguments} {body : List Stmt} {sc : Scope} {f : Addr} {fd : FuncData} {N ps : List Str} {k : Nat} {pre : List PyData → (V → Hp → Prop) → Prop} (F : FunD K nm nm args body sc [] [] f fd) (S : FnScope N ps sc)
    (hl : ∀ ds R, pre ds R → ds.length = ps.length)
    (h : ∀ (cdv : Value) (A : Around) (outer : List Env) (s : Shared) (H : Hp) (vs : List V) (E : XK) (ds : List PyData) (R : V → Hp → Prop), Room k (A.deeper (envOfC nm sc s.heap.objs.size f cdv)) → DpAll K H vs ds → pre ds R →
      RB (cxOf CX0 P w K mg base N nm sc f cdv A outer s H E).nox body (Rt H R) (start N vs) H) : FnOk P w K mg base CX0 (k + 1) f fd ps (SpD K pre) := by
  refine F.ok S (fun vs H Q E h => ?_) (fun cdv A outer s H vs Q E hr hsp => ?_)
  · obtain ⟨ds, R, d, hp, _⟩ := h
    rw [dps_length d]
    exact hl ds R hp
  · obtain ⟨ds, R, d, hp, q⟩ := hsp
    refine ⟨_, PSs.nox pss_rb, ?_⟩
    exact rb_imp (h cdv A outer s H vs E ds R hr d hp) (fun _ H' r => q _ H' r.1 r.2) (fun v H' r => q v H' r.1 r.2) (fun _ _ z => z) (fun _ _ z => z)
theorem cal_of {nm : Str} {args : Arguments} {body : List Stmt} {sc : Scope} {f : Addr} {fd : FuncData} {N ps : List Str} {k : Nat} {pre : List PyData → (V → Hp → Prop) → Prop} (F : FunD K nm nm args body sc [] [] f fd) (S : FnScope N ps sc) (hm : mg nm = some (.ref f))
    (hb : ∀ (kV doc pm : Value) (an : Option Addr) (cdv ct : Value) (us : List Value), us.length = ps.length → bindArgs (PySem.W.fnOf nm nm args body sc .none kV doc pm an cdv ct) ⟨us, []⟩ = pure (ps.zip us))
    (hl : ∀ ds R, pre ds R → ds.length = ps.length)
    (h : ∀ (cdv : Value) (A : Around) (outer : List Env) (s : Shared) (H : Hp) (vs : List V) (E : XK) (ds : List PyData) (R : V → Hp → Prop), Room k (A.deeper (envOfC nm sc s.heap.objs.size f cdv)) → DpAll K H vs ds → pre ds R →
      RB (cxOf CX0 P w K mg base N nm sc f cdv A outer s H E).nox body (Rt H R) (start N vs) H) : Cal P w K mg base nm (k + 1) (SpD K pre) :=
  ⟨f, fd, ps, fn_of F S hl h, hm, F.kp, F.bindsN hb⟩
theorem Cal.up {nm : Str} {j k : Nat} {sp : Sp} (C : Cal P w K mg base nm j sp) (h : j ≤ k) : Cal P w K mg base nm k sp := by
  obtain ⟨f, fd, ps, F, a, b, c⟩ := C
  exact ⟨f, fd, ps, F.mono h, a, b, c⟩
end
end GF
set_option Elab.async false
set_option linter.all false
set_option maxRecDepth 100000
set_option maxHeartbeats 4000000
namespace GF
open PySem PySem.Spec PySem.W PyProof.Rows L2
def top (i : Nat) : Stmt := PySem.Challenge.pw_holdplaces_k78_whole_guards_for_ever.main.body.getD i (.Pass ⟨0, 0, 0, 0⟩)
abbrev FD (K : PySem.W.Frag) (nm : Str) (i : Nat) (f : Addr) (fd : FuncData) : Prop := FunD K nm nm (defArgs (top i)) (defBody (top i)) (defScope (top i)) [] [] f fd
/-- a promise that hands back the datum -/
def Gv {α : Type} [DecidableEq α] [Datum α] (K : PySem.W.Frag) (x : α) : V → Hp → Prop := fun v H => DD K H v x
end GF
set_option Elab.async false
set_option linter.all false
set_option maxRecDepth 100000
set_option maxHeartbeats 1000000
/-! what the defs compute, in plain Lean -/
namespace GF
open PySem.W
def tied (W : Wb) (a b : Nat) : Bool := decide ((a, b) ∈ W.2.items) || decide ((b, a) ∈ W.2.items)
/-- some of a web of n places -/
def VS (n : Nat) (s : Sm) : Prop := s.items.Pairwise (· < ·) ∧ ∀ x ∈ s.items, x < n
/-- a web -/
def VW (W : Wb) : Prop := 1 ≤ W.1 ∧ W.1 ≤ 8 ∧ (∀ q ∈ W.2.items, q.1 < q.2 ∧ q.2 < W.1) ∧ W.2.items.Pairwise fun x y => DatumOrd.lt x y = true
def hood (W : Wb) (p : Nat) : Sm := ⟨(List.range W.1).filter fun o => decide (o = p) || tied W p o⟩
def found : Nat → List Sm
  | 0 => [⟨[]⟩]
  | k + 1 => found k ++ (found k).map fun s => ⟨s.items ++ [k]⟩
def allSome (n : Nat) : List Sm := (found n).mergeSort leD
def byNumber (n : Nat) : List Sm := (List.range (n + 1)).flatMap fun k => (allSome n).filter fun s => decide (s.items.length = k)
def sortS (l : List Nat) : Sm := ⟨l.mergeSort leD⟩
def movesOf (W : Wb) (s : Sm) (p : Nat) : List Sm := ((s.items.filter fun g => tied W g p).map fun g => sortS ((s.items.filter fun o => decide (o ≠ g)) ++ [p])).mergeSort leD
def without (W : Wb) (s : Sm) : List Nat := (List.range W.1).filter fun p => decide (p ∉ s.items)
def answersIn (W : Wb) (s : Sm) (fam : List Sm) : Bool := (without W s).all fun p => (movesOf W s p).any fun m => decide (m ∈ fam)
def goneOf (W : Wb) (left : List Sm) : List Sm := left.filter fun s => !answersIn W s left
def daysLoop (W : Wb) : Nat → Nat → List Sm → List (Sm × Nat) → List (Sm × Nat) × List Sm
  | 0, _, left, acc => (acc, left)
  | fuel + 1, day, left, acc => if goneOf W left = [] then (acc, left) else daysLoop W fuel (day + 1) (left.filter fun s => decide (s ∉ goneOf W left)) (acc ++ (goneOf W left).map fun s => (s, day))
def kSome (n k : Nat) : List Sm := (allSome n).filter fun s => decide (s.items.length = k)
def byDays (W : Wb) (k : Nat) : List (Sm × Nat) × List Sm := daysLoop W ((kSome W.1 k).length + 1) 0 (kSome W.1 k) []
def fam (W : Wb) (k : Nat) : List Sm := (byDays W k).2
def firstFam (W : Wb) : List Sm := match (List.range (W.1 + 1)).find? fun k => decide (fam W k ≠ []) with
  | some k => fam W k
  | none => []
def fewestGuards (W : Wb) : Nat := ((firstFam W).headD ⟨[]⟩).items.length
def firstGuards (W : Wb) : Sm := (firstFam W).headD ⟨[]⟩
def dlook (D : List (Sm × Nat)) (s : Sm) : Option Nat := (D.find? fun q => decide (q.1 = s)).map (·.2)
def daysM (W : Wb) (s : Sm) : Option Nat := dlook (byDays W s.items.length).1 s
/-- the days of one, beyond all where it lasts -/
def dget (D : List (Sm × Nat)) (s : Sm) : Int := (((dlook D s).getD (D.length + 1) : Nat) : Int)
def leftBy (D : List (Sm × Nat)) (W : Wb) (s : Sm) (p : Nat) : Int := maxOr (-1) ((movesOf W s p).map (dget D))
def bestMove (W : Wb) (s : Sm) (p : Nat) : Option Sm := (movesOf W s p).find? fun m => decide (dget (byDays W s.items.length).1 m = leftBy (byDays W s.items.length).1 W s p)
def holders (W : Wb) (s : Sm) (p : Nat) : Sm := ⟨(hood W p).items.filter fun o => decide (o ∈ s.items)⟩
def unheld (W : Wb) (s : Sm) : Sm := ⟨(List.range W.1).filter fun p => decide (holders W s p = ⟨[]⟩)⟩
def holdAll (W : Wb) (s : Sm) : Bool := decide (unheld W s = ⟨[]⟩)
def fits (W : Wb) (s : Sm) (p : Nat) : Bool := decide (p ∉ s.items) && !((s.items.map fun o => tied W p o).any id)
def untiedGood (W : Wb) (s : Sm) : Bool := ((List.range s.items.length).zip s.items).all fun q => fits W ⟨s.items.take q.1⟩ q.2
def untiedRows (W : Wb) : List Sm := (allSome W.1).filter (untiedGood W)
def mostLen (l : List Sm) : Nat := l.foldl (fun m s => max m s.items.length) 0
def firstUntied (W : Wb) : Sm := ((untiedRows W).filter fun s => decide (s.items.length = mostLen (untiedRows W))).headD ⟨[]⟩
def mostUntied (W : Wb) : Nat := (firstUntied W).items.length
/-- the crowds with place p put to the one at a place, where it fits -/
def putAt (W : Wb) (p : Nat) (c : List Sm) : List (List Sm) := (((List.range c.length).zip c).filter fun q => (q.2.items.map fun o => tied W p o).all id).map fun q => c.take q.1 ++ [⟨q.2.items ++ [p]⟩] ++ c.drop (q.1 + 1)
def partings (W : Wb) : Nat → List (List Sm)
  | 0 => [[]]
  | k + 1 => (partings W k).flatMap fun c => putAt W k c ++ [c ++ [⟨[k]⟩]]
def leastLen (l : List (List Sm)) : Nat := match l with
  | [] => 0
  | c :: r => r.foldl (fun m c => min m c.length) c.length
def fewCrowds (W : Wb) : List Sm := (((partings W W.1).filter fun c => decide (c.length = leastLen (partings W W.1))).headD []).mergeSort leD
/-- all that have one of each crowd -/
def crossed (c : List Sm) : List Sm := c.foldl (fun acc (s : Sm) => acc.flatMap fun one => s.items.map fun p => (⟨one.items ++ [p]⟩ : Sm)) [⟨[]⟩]
def crowdFamily (c : List Sm) : List Sm := ((crossed c).map fun one => sortS one.items).mergeSort leD
def firstHolds (W : Wb) : Sm := ((byNumber W.1).filter (holdAll W)).headD ⟨[]⟩
def fewest (W : Wb) : Nat := (firstHolds W).items.length
end GF
set_option Elab.async false
set_option linter.all false
set_option maxRecDepth 100000
set_option maxHeartbeats 1000000
/-! sizes, and who is in the lists -/
namespace GF
open PySem.W
theorem ltN {a b : Nat} : DatumOrd.lt a b = decide (a < b) := rfl
theorem leN {a b : Nat} : leD a b = decide (a ≤ b) := by
  show (!decide (b < a)) = decide (a ≤ b)
  by_cases h : b < a
  · rw [decide_eq_true h, decide_eq_false (by omega)]
    rfl
  · rw [decide_eq_false h, decide_eq_true (by omega)]
    rfl
theorem found_len : ∀ k, (found k).length = 2 ^ k
  | 0 => rfl
  | k + 1 => by
    rw [found, List.length_append, List.length_map, found_len k]
    omega
theorem allSome_len (n : Nat) : (allSome n).length = 2 ^ n := by
  unfold allSome
  rw [List.length_mergeSort, found_len]
theorem allSome_256 {n : Nat} (h : n ≤ 8) : (allSome n).length ≤ 256 := by
  rw [allSome_len]
  exact Nat.le_trans (Nat.pow_le_pow_right (by decide) h) (by decide)
theorem pw_len : ∀ (n : Nat) (l : List Nat), l.Pairwise (· < ·) → (∀ x ∈ l, x < n) → l.length ≤ n := by
  intro n
  induction n with
  | zero =>
    intro l _ h
    cases l with
    | nil => exact Nat.le_refl _
    | cons x r => exact absurd (h x List.mem_cons_self) (Nat.not_lt_zero _)
  | succ n ih =>
    intro l hp h
    by_cases hn : n ∈ l
    · have e : (l.filter fun x => decide (x < n)).length ≤ n := ih _ (hp.sublist List.filter_sublist) fun x hx => of_decide_eq_true (List.mem_filter.mp hx).2
      have nd : l.Nodup := hp.imp fun h => Nat.ne_of_lt h
      have e2 : l.length = (l.filter fun x => decide (x < n)).length + l.countP (fun x => !decide (x < n)) := by
        rw [← List.countP_eq_length_filter]
        have e := List.length_eq_countP_add_countP (fun x => decide (x < n)) (l := l)
        have e' : l.countP (fun a => decide ¬decide (a < n) = true) = l.countP (fun x => !decide (x < n)) := List.countP_congr fun x hx => by simp
        rw [e'] at e
        exact e
      have e3 : l.countP (fun x => !decide (x < n)) ≤ 1 := by
        have : l.countP (fun x => !decide (x < n)) = l.countP (fun x => x == n) := List.countP_congr fun x hx => by
          have := h x hx
          simp
          omega
        rw [this]
        exact List.nodup_iff_count.mp nd n
      omega
    · exact Nat.le_succ_of_le (ih l hp fun x hx => by
        have h1 := h x hx
        have h2 : x ≠ n := fun e => hn (e ▸ hx)
        omega)
theorem VS.len {n : Nat} {s : Sm} (h : VS n s) : s.items.length ≤ n := pw_len n _ h.1 h.2
theorem VS.nodup {n : Nat} {s : Sm} (h : VS n s) : s.items.Nodup := h.1.imp fun h => Nat.ne_of_lt h
theorem found_mem : ∀ (k : Nat) (s : Sm), s ∈ found k ↔ VS k s
  | 0, s => by
    constructor
    · intro h
      have e : s = ⟨[]⟩ := by simpa [found] using h
      subst e
      exact ⟨.nil, fun x h => by cases h⟩
    · intro h
      have h1 := h.len
      have h2 : s.items = [] := List.eq_nil_of_length_eq_zero (by omega)
      cases s
      simp at h2
      subst h2
      simp [found]
  | k + 1, s => by
    rw [found, List.mem_append, found_mem k, List.mem_map]
    constructor
    · rintro (h | ⟨t, ht, rfl⟩)
      · exact ⟨h.1, fun x hx => Nat.lt_succ_of_lt (h.2 x hx)⟩
      · have h := (found_mem k t).mp ht
        refine ⟨List.pairwise_append.mpr ⟨h.1, List.pairwise_singleton _ _, fun a ha b hb => ?_⟩, fun x hx => ?_⟩
        · rw [List.mem_singleton.mp hb]
          exact h.2 a ha
        · rcases List.mem_append.mp hx with hx | hx
          · exact Nat.lt_succ_of_lt (h.2 x hx)
          · rw [List.mem_singleton.mp hx]
            exact Nat.lt_succ_self k
    · intro h
      by_cases hk : k ∈ s.items
      · right
        obtain ⟨l, rfl⟩ : ∃ l, s = ⟨l⟩ := ⟨s.items, by cases s; rfl⟩
        obtain ⟨a, b, hab⟩ := List.append_of_mem hk
        simp only at hab
        subst hab
        have hp := List.pairwise_append.mp h.1
        have hb : b = [] := by
          cases b with
          | nil => rfl
          | cons y r =>
            have h1 : k < y := (List.pairwise_cons.mp hp.2.1).1 y List.mem_cons_self
            have h2 := h.2 y (by simp)
            omega
        subst hb
        refine ⟨⟨a⟩, (found_mem k _).mpr ⟨hp.1, fun x hx => hp.2.2 x hx k List.mem_cons_self⟩, rfl⟩
      · left
        exact ⟨h.1, fun x hx => by
          have h1 := h.2 x hx
          have h2 : x ≠ k := fun e => hk (e ▸ hx)
          omega⟩
theorem allSome_mem {n : Nat} {s : Sm} : s ∈ allSome n ↔ VS n s := by
  unfold allSome
  rw [List.mem_mergeSort, found_mem]
theorem kSome_mem {n k : Nat} {s : Sm} : s ∈ kSome n k ↔ VS n s ∧ s.items.length = k := by
  unfold kSome
  rw [List.mem_filter, allSome_mem, decide_eq_true_eq]
theorem kSome_256 {n k : Nat} (h : n ≤ 8) : (kSome n k).length ≤ 256 := Nat.le_trans (List.length_filter_le _ _) (allSome_256 h)
theorem empty_VS (n : Nat) : VS n ⟨[]⟩ := ⟨.nil, fun x h => by cases h⟩
end GF
set_option Elab.async false
set_option linter.all false
set_option maxRecDepth 100000
set_option maxHeartbeats 4000000
/-! a dict from some to numbers, its keys any tuples that can be read -/
namespace GF
open PySem PySem.Spec PySem.W PyProof.Rows L2
/-- the key of some -/
def kys (s : Sm) : List Key := s.items.map fun n : Nat => .inl (n : Int)
theorem kys_inj {s t : Sm} (h : kys s = kys t) : s = t := by
  obtain ⟨a⟩ := s
  obtain ⟨b⟩ := t
  have e : a.map (fun n : Nat => (Sum.inl (n : Int) : Key)) = b.map fun n : Nat => (Sum.inl (n : Int) : Key) := h
  have : a = b := by
    have inj : ∀ x y : Nat, (Sum.inl (x : Int) : Key) = Sum.inl (y : Int) → x = y := fun x y q => Int.ofNat.inj (Sum.inl.inj q)
    exact List.map_inj_right inj |>.mp e
  rw [this]
theorem kys_V (s : Sm) : (kys s).map kV = s.items.map fun n : Nat => V.int (n : Int) := by
  unfold kys
  rw [List.map_map]
  rfl
def rawD (P : Program) (w : World) (a : Addr) (xs : List (List Key × Addr × Value)) : Heap → Prop := fun h =>
  ∃ o es ep, h.get? a = some o ∧ o.ExactDict ∧ o.data = .dict es ep ∧ es.toList = xs.map (entryOfKey (tupleKind (mixKind P w))) ∧ (xs.map (·.1)).Nodup
def Ent (K : PySem.W.Frag) (H : Hp) : List (Sm × Nat) → List (List Key × Addr × Value) → Prop := Paired fun q x => x.1 = kys q.1 ∧ SqT K H x.2.1 (q.1.items.map fun n : Nat => V.int (n : Int)) ∧ ∃ t, x.2.2 = .int (q.2 : Int) t
def IsDct (P : Program) (w : World) (K : PySem.W.Frag) (H : Hp) (a : Addr) (D : List (Sm × Nat)) : Prop :=
  (a == sysModules) = false ∧ D.length ≤ 1000 ∧ ∃ xs, H a = some (.ext (rawD P w a xs)) ∧ Ent K H D xs
section
variable {P : Program} {w : World} {K : PySem.W.Frag} {H H' : Hp} {a : Addr} {D : List (Sm × Nat)} {xs : List (List Key × Addr × Value)}
theorem Ent.same (e : Same H H') (h : Ent K H D xs) : Ent K H' D xs := Paired.mapP h fun _ _ z => ⟨z.1, same_t e z.2.1, z.2.2⟩
theorem dct_same (e : Same H H') (h : IsDct P w K H a D) : IsDct P w K H' a D := by
  obtain ⟨h1, h2, xs, h3, h4⟩ := h
  exact ⟨h1, h2, xs, e a _ h3, h4.same e⟩
theorem Ent.upd {φ : Heap → Prop} {o : HO} (ha : H a = some (.ext φ)) (h : Ent K H D xs) : Ent K (upd H a o) D xs := Paired.mapP h fun _ _ z => by
  refine ⟨z.1, ?_, z.2.2⟩
  rcases z.2.1 with (q | ⟨o', q⟩) | q
  · exact .inl (.inl ((upd_ne (ne_of q ha (fun z => nomatch z))).trans q))
  · exact .inl (.inr ⟨o', (upd_ne (ne_of q ha (fun z => nomatch z))).trans q⟩)
  · exact .inr q
theorem Ent.look : ∀ {D : List (Sm × Nat)} {xs : List (List Key × Addr × Value)}, Ent K H D xs → ∀ s : Sm, RelO ((dlook D s).map fun d : Nat => V.int (d : Int)) ((atKey xs (kys s)).map (·.2))
  | [], _, h, s => by
    cases h
    exact True.intro
  | q :: D, _, h, s => by
    cases h with
    | @cons p x ps ys h t =>
      by_cases e : q.1 = s
      · have e' : x.1 = kys s := h.1.trans (congrArg kys e)
        have b : atKey (x :: ys) (kys s) = some x.2 := by simp [atKey, List.find?_cons, e']
        have b2 : dlook (q :: D) s = some q.2 := by simp [dlook, List.find?_cons, e]
        rw [b, b2]
        obtain ⟨t, ht⟩ := h.2.2
        show RelV (V.int (q.2 : Int)) x.2.2
        exact ⟨t, ht⟩
      · have e' : ¬ x.1 = kys s := fun z => e (kys_inj (h.1.symm.trans z))
        have b : atKey (x :: ys) (kys s) = atKey ys (kys s) := by simp [atKey, List.find?_cons, e']
        have b2 : dlook (q :: D) s = dlook D s := by simp [dlook, List.find?_cons, e]
        rw [b, b2]
        exact Ent.look t s
theorem Ent.length (h : Ent K H D xs) : D.length = xs.length := Paired.length h
end
section
variable {X : Cx} {pins : List (Addr × Obj)} {σ : L2.St} {H : Hp} {s : Shared} {a : Addr} {D : List (Sm × Nat)}
theorem dct_at (I : Inv X pins σ H s) (h : IsDct X.prog X.w X.K H a D) : ∃ xs, Ent X.K H D xs ∧ s.heap.DictOfH (tupleKind (mixKind X.prog X.w)) a xs := by
  obtain ⟨h1, h2, xs, h3, h4⟩ := h
  obtain ⟨⟨o, es, ep, k1, k2, k3, k4, k5⟩, _, _⟩ := I.hok a _ h3
  refine ⟨xs, h4, o, es, ep, k1, k2, k3, k4, fun x hx => ?_, k5⟩
  have all : ∀ {l : List (Sm × Nat)} {m : List (List Key × Addr × Value)}, Ent X.K H l m → ∀ x ∈ m, (tupleKind (mixKind X.prog X.w)).is s.heap x.1 x.2.1 := by
    intro l m q
    induction q with
    | nil => intro x hx; exact nomatch hx
    | @cons p q ps qs hq t ih =>
      intro x hx
      rcases List.mem_cons.mp hx with e | hx
      · subst e
        obtain ⟨its, r, ⟨o, e1, e2, n, e3⟩, _⟩ := I.tuple hq.2.1
        rw [← kys_V] at r
        rw [hq.1]
        exact ⟨o, its.toArray, n, e1, e2, e3, by simpa using items_are r⟩
      · exact ih x hx
  exact all h4 x hx
theorem key_at (I : Inv X pins σ H s) {b : Addr} {t : Sm} (h : SqT X.K H b (t.items.map fun n : Nat => V.int (n : Int))) : (tupleKind (mixKind X.prog X.w)).is s.heap (kys t) b := by
  obtain ⟨its, r, ⟨o, e1, e2, n, e3⟩, _⟩ := I.tuple h
  rw [← kys_V] at r
  exact ⟨o, its.toArray, n, e1, e2, e3, by simpa using items_are r⟩
theorem dd_key {v : V} {t : Sm} (h : DD X.K H v t) : ∃ b, v = .ref b ∧ SqT X.K H b (t.items.map fun n : Nat => V.int (n : Int)) := by
  obtain ⟨b, ys, rfl, h1, h2⟩ := dd_tup h
  rw [dds_nats h2] at h1
  exact ⟨b, rfl, h1⟩
theorem dct_type (I : Inv X pins σ H s) (h : IsDct X.prog X.w X.K H a D) : s.TypeIs (.ref a) "dict" ∧ ∀ b, Value.ref a = .ref b → ∃ ob, s.heap.get? b = some ob ∧ ob.dict = none := by
  obtain ⟨xs, _, dd⟩ := dct_at I h
  refine ⟨dd.typeIs, fun b q => ?_⟩
  cases q
  obtain ⟨o, es, ep, k1, k2, k3, _⟩ := dd
  exact ⟨o, k1, k2.2.1⟩
theorem dct_get1 {A : Around} {E : Value → Shared → Prop} {Q : Value → Shared → Prop} {t : Sm} {v : V} {u : Value} (hu : A.units + 1 < cLine) (I : Inv X pins σ H s) (g : IsDct X.prog X.w X.K H a D) (hk : DD X.K H v t) (ry : RelV v u)
    (h : ∀ w' s', Inv X pins σ H s' → RelV (((dlook D t).map fun d : Nat => V.int (d : Int)).getD .non) w' → Q w' s') : wpAny (model X.prog X.w) A (call (.builtin "dict.get") [.ref a, u]) Q E s := by
  obtain ⟨b, rfl, hb⟩ := dd_key hk
  cases (show u = Value.ref b from ry)
  obtain ⟨xs, rel, dd⟩ := dct_at I g
  refine call_meetsIn PySem.F.slot_dict_get dd.typeIs PySem.F.entry_dict_get (PySem.F.args_dict_get_2 _ _) (meetsH_dict_get (tupleKind (mixKind X.prog X.w)) a b g.1) ⟨tupleKind_room_in1 hu, kys t, xs, key_at I hb, dd, h _ _ (I.tok _) ?_⟩
  exact (rel.look t).getD rfl
theorem dct_get2 {A : Around} {E : Value → Shared → Prop} {Q : Value → Shared → Prop} {t : Sm} {v d : V} {u r : Value} (hu : A.units + 1 < cLine) (I : Inv X pins σ H s) (g : IsDct X.prog X.w X.K H a D) (hk : DD X.K H v t) (ry : RelV v u) (rd : RelV d r)
    (h : ∀ w' s', Inv X pins σ H s' → RelV (((dlook D t).map fun d : Nat => V.int (d : Int)).getD d) w' → Q w' s') : wpAny (model X.prog X.w) A (call (.builtin "dict.get") [.ref a, u, r]) Q E s := by
  obtain ⟨b, rfl, hb⟩ := dd_key hk
  cases (show u = Value.ref b from ry)
  obtain ⟨xs, rel, dd⟩ := dct_at I g
  refine call_meetsIn PySem.F.slot_dict_get dd.typeIs PySem.F.entry_dict_get (PySem.F.args_dict_get_3 _ _ _) (meetsH_dict_get_default (tupleKind (mixKind X.prog X.w)) a b g.1 r) ⟨tupleKind_room_in1 hu, kys t, xs, key_at I hb, dd, h _ _ (I.tok _) ?_⟩
  exact (rel.look t).getD rd
/-- what holds in H holds without the dict -/
theorem hidT {K : PySem.W.Frag} {φ : Heap → Prop} {b : Addr} {ys : List V} (ha : H a = some (.ext φ)) (h : SqT K H b ys) : SqT K (hid H a) b ys := by
  rcases h with (q | ⟨o', q⟩) | q
  · exact .inl (.inl ((hid_ne (ne_of q ha (fun z => nomatch z))).trans q))
  · exact .inl (.inr ⟨o', (hid_ne (ne_of q ha (fun z => nomatch z))).trans q⟩)
  · exact .inr q
theorem hidL {K : PySem.W.Frag} {φ : Heap → Prop} {b : Addr} {ys : List V} (ha : H a = some (.ext φ)) (h : SqL K H b ys) : SqL K (hid H a) b ys := by
  rcases h with (q | ⟨o', q⟩) | q
  · exact .inl (.inl ((hid_ne (ne_of q ha (fun z => nomatch z))).trans q))
  · exact .inl (.inr ⟨o', (hid_ne (ne_of q ha (fun z => nomatch z))).trans q⟩)
  · exact .inr q
mutual
theorem dp_hid {K : PySem.W.Frag} {φ : Heap → Prop} (ha : H a = some (.ext φ)) : ∀ {v : V} {d : PyData}, Dp K H v d → Dp K (hid H a) v d
  | _, _, .non => .non
  | _, _, .bl b => .bl b
  | _, _, .int i => .int i
  | _, _, .str x => .str x
  | _, _, .lst h t => .lst (hidL ha h) (dps_hid ha t)
  | _, _, .tup h t => .tup (hidT ha h) (dps_hid ha t)
theorem dps_hid {K : PySem.W.Frag} {φ : Heap → Prop} (ha : H a = some (.ext φ)) : ∀ {vs : List V} {ds : List PyData}, DpAll K H vs ds → DpAll K (hid H a) vs ds
  | _, _, .nil => .nil
  | _, _, .cons h t => .cons (dp_hid ha h) (dps_hid ha t)
end
theorem dlook_none {D : List (Sm × Nat)} {t : Sm} (h : dlook D t = none) {xs : List (List Key × Addr × Value)} {K : PySem.W.Frag} (e : Ent K H D xs) : (atKey xs (kys t)).isSome = false := by
  have := e.look t
  rw [h] at this
  cases q : atKey xs (kys t) with
  | none => rfl
  | some z =>
    rw [q] at this
    exact this.elim
/-- d[t] = n, a new key -/
theorem dct_put {A : Around} {E : Value → Shared → Prop} {Q : Unit → Shared → Prop} {t : Sm} {n : Nat} {v : V} {u r : Value} (hu : A.units + 1 < cLine) (I : Inv X pins σ H s) (g : IsDct X.prog X.w X.K H a D) (hk : DD X.K H v t) (ry : RelV v u) (rv : RelV (.int (n : Int)) r) (hz : D.length < 1000) (hn : dlook D t = none)
    (h : ∀ o s', IsDct X.prog X.w X.K (upd H a o) a (D ++ [(t, n)]) → Inv X pins σ (upd H a o) s' → Q () s') : wpAny (model X.prog X.w) A (setItem (.ref a) u r) Q E s := by
  obtain ⟨b, rfl, hb⟩ := dd_key hk
  cases (show u = Value.ref b from ry)
  obtain ⟨xs, rel, dd⟩ := dct_at I g
  have el := rel.length
  have hsz : xs.length ≤ sizeLine := Nat.le_trans (show xs.length ≤ 1000 by omega) (by decide)
  obtain ⟨g1, g2, ys, g3, g4⟩ := g
  refine wpAny_setItem_heap (hsz := hsz) (tupleKind_room_in1 hu) (key_at I hb) dd fun h' dd' hs => h (.ext (rawD X.prog X.w a (storedH xs (kys t) b r))) _ ⟨g1, by simp; omega, _, upd_same, ?_⟩ ?_
  · unfold storedH
    rw [if_neg (by rw [dlook_none hn rel]; decide)]
    obtain ⟨tk, rfl⟩ := rv
    exact Paired.snoc (rel.upd g3) ⟨rfl, by
      rcases hb with (q | ⟨o', q⟩) | q
      · exact .inl (.inl ((upd_ne (ne_of q g3 (fun z => nomatch z))).trans q))
      · exact .inl (.inr ⟨o', (upd_ne (ne_of q g3 (fun z => nomatch z))).trans q⟩)
      · exact .inr q, tk, rfl⟩
  · obtain ⟨q, es, ep, hq, h2, h3, h4, _, h5⟩ := dd'
    refine d_write I (by rw [g3]; exact True.intro) hs ⟨q, hq⟩ ⟨⟨q, es, ep, hq, h2, h3, h4, h5⟩, ⟨q, hq⟩, fun h1 h2' p k => ?_⟩
    obtain ⟨o1, es1, ep1, k1, k2⟩ := p
    exact ⟨o1, es1, ep1, k o1 k1, k2⟩
end
/-! the rules -/
section
variable {X : Cx} {σ : L2.St} {H : Hp} {o e e2 : Expr} {pos p p' apos cpos : Pos} {nm : Str} {D : Ends}
/-- y = {} -/
theorem rs_setD (j : Nat) (hN : X.N.Nodup) (k : ∀ a H1, H a = none → Same H H1 → IsDct X.prog X.w X.K H1 a [] → D.nx (σ.set j (some (.ref a))) H1) (hi : X.N[j]? = some nm := by rfl) (hx : Loc X.env.scope nm := by first | exact Or.inl rfl | exact Or.inr rfl) (hs : swapsWith (.Dict [] [] p) (some (.Name nm p')) pos.line X.env = pure false := by rfl)
    (hf : X.fn nm = true ∨ X.env.scope.names.lookup nm = some .local := by first | exact .inl rfl | exact .inr rfl) : RS X (.Assign [.Name nm p'] (.Dict [] [] p) pos) D σ H := by
  refine rs_of (ps_set hN hi hx pe_re hs hf) ?_
  intro pins s I
  have hp : H s.heap.objs.size = none := I.hok.fresh (Nat.le_refl _)
  refine wpAny_Dict_empty ⟨.ref s.heap.objs.size, _, I.laid (a := s.heap.objs.size) (o := .ext (rawD X.prog X.w s.heap.objs.size [])) (t' := s.toks) (fun _ _ q => Heap.get?_push_of_some _ q) (Nat.le_refl _) ⟨⟨_, #[], 0, Heap.get?_push_size _ rfl, ⟨rfl, rfl, rfl⟩, rfl, rfl, List.nodup_nil⟩, ⟨_, Heap.get?_push_size _ rfl⟩, fun h1 h2 q k => ?_⟩, rfl, ?_⟩
  · obtain ⟨o1, es1, ep1, k1, k2⟩ := q
    exact ⟨o1, es1, ep1, k o1 k1, k2⟩
  · exact k _ _ hp (same_new hp) ⟨beq_eq_false_iff_ne.mpr (Ne.symm (Nat.ne_of_lt I.big)), Nat.zero_le _, [], upd_same, .nil⟩
/-- o.get(e) -/
theorem ev_get1 {d : List (Sm × Nat)} {t : Sm} (hu : X.A.units + 1 < cLine) (ho : EV X o σ H fun v H1 => ∃ a, v = .ref a ∧ IsDct X.prog X.w X.K H1 a d) (he : ED X e σ H t) (m : M1 X o "get" apos e cpos) :
    EV X (.Call (.Attribute o "get" apos) [e] [] cpos) σ H fun v H1 => v = ((dlook d t).map fun n : Nat => V.int (n : Int)).getD .non := fun H1 h Q q pins s I => by
  refine wpAny_Call_method m.base m.few m.line PySem.F.plainAttrs_dict PySem.F.slot_dict_get PySem.F.type_dict_get (thn (ho H1 h (fun v H2 => Same H1 H2 ∧ ∃ a, v = .ref a ∧ IsDct X.prog X.w X.K H2 a d) (fun v H2 s2 r => ⟨s2, r⟩) pins s I) fun u s1 ⟨x, H2, I2, rx, s2, a, ex, g⟩ => ?_)
  subst ex
  obtain rfl : u = Value.ref a := rx
  obtain ⟨t1, t2⟩ := dct_type I2 g
  refine ⟨t1, t2, ?_⟩
  rw [m.trees]
  refine Calls.callWith_builtin rfl (Calls.evalArgs_plain (Calls.spliced_cons (thn (he H2 (h.trans s2) (fun v H3 => Same H2 H3 ∧ DD X.K H3 v t) (fun v H3 s3 r => ⟨s3, r⟩) pins s1 I2) fun iv s3 ⟨y, H3, I3, ry, s3', dy⟩ => Calls.spliced_nil ?_)))
  exact dct_get1 hu I3 (dct_same s3' g) dy ry fun w' s4 I4 rw' => ⟨_, H3, I4, rw', q _ H3 (s2.trans s3') rfl⟩
/-- o.get(e, n) -/
theorem ev_get2 {d : List (Sm × Nat)} {t : Sm} {n : Nat} (hu : X.A.units + 1 < cLine) (ho : EV X o σ H fun v H1 => ∃ a, v = .ref a ∧ IsDct X.prog X.w X.K H1 a d) (he : ED X e σ H t) (he2 : ED X e2 σ H n) (m : M2 X o "get" apos e e2 cpos) :
    ED X (.Call (.Attribute o "get" apos) [e, e2] [] cpos) σ H ((dlook d t).getD n) := fun H1 h Q q pins s I => by
  refine wpAny_Call_method m.base m.few m.line PySem.F.plainAttrs_dict PySem.F.slot_dict_get PySem.F.type_dict_get (thn (ho H1 h (fun v H2 => Same H1 H2 ∧ ∃ a, v = .ref a ∧ IsDct X.prog X.w X.K H2 a d) (fun v H2 s2 r => ⟨s2, r⟩) pins s I) fun u s1 ⟨x, H2, I2, rx, s2, a, ex, g⟩ => ?_)
  subst ex
  obtain rfl : u = Value.ref a := rx
  obtain ⟨t1, t2⟩ := dct_type I2 g
  refine ⟨t1, t2, ?_⟩
  rw [m.trees]
  refine Calls.callWith_builtin rfl (Calls.evalArgs_plain (Calls.spliced_cons (thn (he H2 (h.trans s2) (fun v H3 => Same H2 H3 ∧ DD X.K H3 v t) (fun v H3 s3 r => ⟨s3, r⟩) pins s1 I2) fun iv s3 ⟨y, H3, I3, ry, s3', dy⟩ => ?_)))
  refine Calls.spliced_cons (thn (he2 H3 ((h.trans s2).trans s3') (fun v H4 => Same H3 H4 ∧ DD X.K H4 v n) (fun v H4 s4 r => ⟨s4, r⟩) pins s3 I3) fun iv2 s4 ⟨z, H4, I4, rz, s4', dz⟩ => Calls.spliced_nil ?_)
  refine dct_get2 hu I4 (dct_same (s3'.trans s4') g) (dp_same s4' dy) ry rz fun w' s5 I5 rw' => ⟨_, H4, I5, rw', q _ H4 ((s2.trans s3').trans s4') ?_⟩
  rw [dd_nat dz]
  cases dlook d t with
  | none => exact .int _
  | some k => exact .int _
/-- d[e] = n -/
theorem rs_put {d : List (Sm × Nat)} {t : Sm} {n : Nat} {a : Addr} {i e3 : Expr} {pos' : Pos} (hu : X.A.units + 1 < cLine) (ho : EV X o σ H fun v H1 => v = .ref a) (hd : IsDct X.prog X.w X.K H a d) (hi : ED X i σ H t) (hv : ED X e3 σ H n) (hz : d.length < 1000) (hn : dlook d t = none)
    (hk : ∀ H1 o, Same H H1 → IsDct X.prog X.w X.K (upd H1 a o) a (d ++ [(t, n)]) → D.nx σ (upd H1 a o)) (hs : swapsWith e3 (some (.Subscript o i pos')) pos.line X.env = pure false := by rfl) : RS X (.Assign [.Subscript o i pos'] e3 pos) D σ H := fun pins s I => by
  refine wpAny_Assign_Subscript (thn (hv H (Same.refl H) (fun v H2 => Same H H2 ∧ DD X.K H2 v n) (fun v H2 s2 r => ⟨s2, r⟩) pins s I) fun r s1 ⟨v, H1, I1, rv, k1, dv⟩ => thn (ho H1 k1 (fun v H2 => Same H1 H2 ∧ v = .ref a) (fun v H2 s2 r => ⟨s2, r⟩) pins s1 I1) fun u s2 ⟨x, H2, I2, rx, k2, ex⟩ =>
    thn (hi H2 (k1.trans k2) (fun v H3 => Same H2 H3 ∧ DD X.K H3 v t) (fun v H3 s3 r => ⟨s3, r⟩) pins s2 I2) fun iv s3 ⟨y, H3, I3, ry, k3, dy⟩ => ?_) hs
  subst ex
  obtain rfl : u = Value.ref a := rx
  rw [dd_nat dv] at rv
  exact dct_put hu I3 (dct_same ((k1.trans k2).trans k3) hd) dy ry rv hz hn fun o s4 g4 I4 => ⟨σ, _, I4, hk H3 o ((k1.trans k2).trans k3) g4⟩
/-- len(d) -/
theorem ed_lenD {d : List (Sm × Nat)} (hB : Bls X.mg) (hg : Gl X "len") (ha : EV X e σ H fun v H1 => ∃ a, v = .ref a ∧ IsDct X.prog X.w X.K H1 a d) (he : starEach [e] X.env = (false, eval e X.env) :: starEach [] X.env := by rfl) (hpl : (backTo pos (starEach [] X.env)).any (·.1) = false := by rfl) :
    ED X (.Call (.Name "len" p) [e] [] pos) σ H d.length := by
  have cr : CallR X (.builtin "len") (fun vs H1 Q => ∃ a, vs = [.ref a] ∧ IsDct X.prog X.w X.K H1 a d ∧ Q (.int (d.length : Int)) H1) := by
    intro pins s σ H vs us Q I r h
    obtain ⟨a, rfl, g, q⟩ := h
    rw [Vals.ref1 r]
    obtain ⟨xs, rel, dd⟩ := dct_at I g
    have el := rel.length
    have := g.2.1
    refine call_len_dictH g.1 dd (by omega) ?_
    rw [← el]
    exact ⟨.int (d.length : Int), H, I.tok _, ⟨_, rfl⟩, q⟩
  have pe : PE X (.Call (.Name "len" p) [e] [] pos) _ := pe_callB cr hg hB.len PySem.boot_len (pa_cons pe_re pa_nil he) (by decide) (by decide) he hpl
  exact ev_of pe fun H1 h Q q => ha H1 h _ fun v H2 s2 ⟨a, ev, g⟩ => ⟨a, by rw [ev], g, q _ H2 s2 (.int _)⟩
end
end GF
set_option Elab.async false
set_option linter.all false
set_option maxRecDepth 100000
set_option maxHeartbeats 4000000
/-! zip loops; args by any relation; defs by any promise -/
namespace GF
open PySem PySem.Spec PySem.W PyProof.Rows L2
section
variable {X : Cx} {σ : L2.St} {H H' : Hp} {α β : Type} [DecidableEq α] [Datum α] [DecidableEq β] [Datum β] {e a b c it : Expr} {st : Stmt} {es sts body s1 s2 : List Stmt} {pos px p : Pos} {nm : Str} {j : Nat} {D : Ends}
theorem rs_forZ {xs : List α} {ys : List β} {n1 n2 : Str} {p1 p2 tpos epos : Pos} {kk j1 j2 : Nat} (hp : PassesOwn (model X.prog X.w) X.A X.env X.xe) (hc : X.calm = true) (hB : Bls X.mg) (hgl : Gl X "zip") (h1 : ED X a σ H xs) (h2 : ED X b σ H ys) (hg : PG X (.Tuple [.Name n1 p1, .Name n2 p2] kk tpos) (gTup X.K 2 (gCons (gName j1) (gCons (gName j2) gNil))))
    (k : ∀ H1, Same H H1 → ∃ (P : Nat → L2.St → Hp → Prop), P 0 σ H1 ∧ (∀ i σ' H', P i σ' H' → Same H1 H') ∧
      (∀ i x y u v σ' H' H'', xs[i]? = some x → ys[i]? = some y → P i σ' H' → Same H' H'' → DD X.K H'' u x → DD X.K H'' v y → RB X body { D with nx := P (i + 1), ct := P (i + 1), bk := D.nx } ((σ'.set j1 (some u)).set j2 (some v)) H'') ∧ (∀ σ' H', P (min xs.length ys.length) σ' H' → D.nx σ' H'))
    (hs : ∀ x, foldedSetIterable (.Call (.Name "zip" p) [a, b] [] epos) X.env x = pure x := by intro _; rfl)
    (hs1 : starEach [a, b] X.env = (false, eval a X.env) :: starEach [b] X.env := by rfl) (hs2 : starEach [b] X.env = (false, eval b X.env) :: starEach [] X.env := by rfl) (hpl : (backTo epos (starEach [b] X.env)).any (·.1) = false := by rfl) :
    RS X (.For (.Tuple [.Name n1 p1, .Name n2 p2] kk tpos) (.Call (.Name "zip" p) [a, b] [] epos) body [] pos) D σ H := by
  refine rs_of (ps_for hp hc (RZ.pi_zipA hgl hB.zip (pa_cons pe_re (pa_cons pe_re pa_nil hs2) hs1) hs1 hpl) hg pss_rb hs) (h1 H (Same.refl H) _ fun v H1 k1 d1 => h2 H1 k1 _ fun u H2 k2 d2 => ?_)
  obtain ⟨P, p0, pk, ps, pd⟩ := k H2 (k1.trans k2)
  obtain ⟨ad, vs, rfl, q1, q2⟩ := dd_lst (dp_same k2 d1)
  obtain ⟨bd, us, rfl, r1, r2⟩ := dd_lst d2
  have hn : min xs.length ys.length = min vs.length us.length := by rw [dds_length q2, dds_length r2]
  refine ⟨ad, bd, vs, us, rfl, .inl ⟨q1, r1, for_it (walk_zip (K := X.K) (a := ad) (b := bd) (xs := vs) (ys := us) hn) P p0 (fun i σ' H' _ p => ⟨same_l (pk i σ' H' p) q1, same_l (pk i σ' H' p) r1⟩) (fun i v σ' H' H'' hi p y => ?_) pd⟩⟩
  obtain ⟨T', y1, y2, rfl, hT', rfl, z1, z2⟩ := y
  obtain ⟨x, hx, dx⟩ := dds_at q2 z1
  obtain ⟨y, hy, dy⟩ := dds_at r2 z2
  exact ⟨T', _, rfl, SqT.of upd_same, rfl, _, _, rfl, _, _, rfl, rfl, ps i x y _ _ σ' H' _ hx hy p (same_new hT') (dp_same ((pk i σ' H' p).trans (same_new hT')) dx) (dp_same ((pk i σ' H' p).trans (same_new hT')) dy)⟩
end
section
variable {X : Cx} {σ : L2.St} {H H' : Hp} {e a b c : Expr} {es rest : List Expr} {pos p p2 : Pos}
/-- args by what is true of the values -/
def EAR (X : Cx) (es : List Expr) (σ : L2.St) (H : Hp) (R : List V → Hp → Prop) : Prop := ∀ H1, Same H H1 → ∀ Q : List V → Hp → Prop, (∀ vs H2, Same H1 H2 → R vs H2 → Q vs H2) → RA X es σ H1 Q
theorem ear_nil : EAR X [] σ H fun vs _ => vs = [] := fun H1 _ Q q => ra_of pa_nil (q [] H1 (Same.refl H1) rfl)
theorem ear_cons {R1 : V → Hp → Prop} {R2 : List V → Hp → Prop} (h : EV X e σ H R1) (t : EAR X es σ H R2) (st : ∀ v H1 H2, Same H1 H2 → R1 v H1 → R1 v H2) (hs : starEach (e :: es) X.env = (false, eval e X.env) :: starEach es X.env := by rfl) :
    EAR X (e :: es) σ H fun vs H1 => ∃ v ws, vs = v :: ws ∧ R1 v H1 ∧ R2 ws H1 := fun H1 k Q q =>
  ra_of (pa_cons pe_re pa_ra hs) (h H1 k _ fun v H2 k2 d => t H2 (k.trans k2) _ fun vs H3 k3 ds => q (v :: vs) H3 (k2.trans k3) ⟨v, vs, rfl, st v _ _ k3 d, ds⟩)
theorem ev_callR {k : Nat} {nm : Str} {sp : Sp} {R : V → Hp → Prop} {R2 : List V → Hp → Prop} (C : Cal X.prog X.w X.K X.mg X.base nm k sp) (hr : Room k X.A) (hg : Gl X nm) (ha : EAR X (e :: es) σ H R2)
    (hs : ∀ vs H1, Same H H1 → R2 vs H1 → ∀ Q : VK, (∀ v H2, Same H1 H2 → R v H2 → Q v H2) → sp vs H1 Q E0)
    (hd : (nm == ("__debug__" : Str)) = false := by decide)
    (he : starEach (e :: es) X.env = (false, eval e X.env) :: starEach es X.env := by rfl) (hpl : (backTo pos (starEach es X.env)).any (·.1) = false := by rfl) : EV X (.Call (.Name nm p) (e :: es) [] pos) σ H R := by
  obtain ⟨f, fd, ps, F, hm, hk, hb⟩ := C
  have pe : PE X (.Call (.Name nm p) (e :: es) [] pos) (tCall sp [] E0 (RA X (e :: es))) := by
    exact pe_call F hr hg hm hk hb .nil pass0 pa_ra hd he hpl
  exact ev_of pe fun H1 h Q q => ha H1 h _ fun vs H2 s2 d2 => by
    rw [List.append_nil]
    exact hs vs H2 (h.trans s2) d2 Q fun v H3 s3 r => q v H3 (s2.trans s3) r
end
section
variable {P : Program} {w : World} {K : PySem.W.Frag} {mg : Str → Option Value} {base : Heap}
/-- a promise: what is true of the args, what is true of the value -/
def SpV (pre : List V → Hp → (V → Hp → Prop) → Prop) : Sp := fun vs H Q _ => ∃ R, pre vs H R ∧ ∀ v H', Same H H' → R v H' → Q v H'
theorem cal_ofV {nm : Str} {args : Arguments} {body : List Stmt} {sc : Scope} {f : Addr} {fd : FuncData} {N ps : List Str} {k : Nat} {pre : List V → Hp → (V → Hp → Prop) → Prop} (F : FunD K nm nm args body sc [] [] f fd) (S : FnScope N ps sc) (hm : mg nm = some (.ref f))
    (hb : ∀ (kV doc pm : Value) (an : Option Addr) (cdv ct : Value) (us : List Value), us.length = ps.length → bindArgs (PySem.W.fnOf nm nm args body sc .none kV doc pm an cdv ct) ⟨us, []⟩ = pure (ps.zip us))
    (hl : ∀ vs H R, pre vs H R → vs.length = ps.length)
    (h : ∀ (cdv : Value) (A : Around) (outer : List Env) (s : Shared) (H : Hp) (vs : List V) (E : XK) (R : V → Hp → Prop), Room k (A.deeper (envOfC nm sc s.heap.objs.size f cdv)) → pre vs H R →
      RB (cxOf CX0 P w K mg base N nm sc f cdv A outer s H E).nox body (Rt H R) (start N vs) H) : Cal P w K mg base nm (k + 1) (SpV pre) := by
  refine ⟨f, fd, ps, ?_, hm, F.kp, F.bindsN hb⟩
  refine F.ok S (fun vs H Q E h => ?_) (fun cdv A outer s H vs Q E hr hsp => ?_)
  · obtain ⟨R, hp, _⟩ := h
    exact hl vs H R hp
  · obtain ⟨R, hp, q⟩ := hsp
    refine ⟨_, PSs.nox pss_rb, ?_⟩
    exact rb_imp (h cdv A outer s H vs E R hr hp) (fun _ H' r => q _ H' r.1 r.2) (fun v H' r => q v H' r.1 r.2) (fun _ _ z => z) (fun _ _ z => z)
end
end GF
set_option Elab.async false
set_option linter.all false
set_option maxRecDepth 100000
set_option maxHeartbeats 4000000
/-! pairs by any relation; index -/
namespace GF
open PySem PySem.Spec PySem.W PyProof.Rows L2
section
variable {X : Cx} {σ : L2.St} {H H' : Hp} {e a b c o : Expr} {es rest : List Expr} {pos p p2 apos cpos : Pos} {α β : Type} [DecidableEq α] [Datum α] [DecidableEq β] [Datum β]
/-- a pair of x and y -/
def Pr (K : PySem.W.Frag) (R1 R2 : V → Hp → Prop) : V → Hp → Prop := fun v H => ∃ p x y, v = .ref p ∧ SqT K H p [x, y] ∧ R1 x H ∧ R2 y H
theorem ev_pair {R1 R2 : V → Hp → Prop} {k : Nat} (ha : EV X a σ H R1) (hb : EV X b σ H R2) (st1 : ∀ v H1 H2, Same H1 H2 → R1 v H1 → R1 v H2) (st2 : ∀ v H1 H2, Same H1 H2 → R2 v H1 → R2 v H2) (he : starEach [a, b] X.env = (false, eval a X.env) :: starEach [b] X.env := by rfl) (he2 : starEach [b] X.env = (false, eval b X.env) :: starEach [] X.env := by rfl) : EV X (.Tuple [a, b] k pos) σ H (Pr X.K R1 R2) :=
  ev_of (pe_tup pa_ra) fun H1 h Q q => (ear_cons ha (ear_cons hb ear_nil st2 he2) st1 he) H1 h _ fun vs H2 s2 d => by
    obtain ⟨v, ws, rfl, r1, u, _, rfl, r2, rfl⟩ := d
    exact ⟨(show 2 ≤ sizeLine by decide), fun pn hpn => q _ _ (s2.trans (same_new hpn)) ⟨pn, v, u, rfl, SqT.of upd_same, st1 _ _ _ (same_new hpn) r1, st2 _ _ _ (same_new hpn) r2⟩⟩
theorem ev_ix0 {R1 R2 : V → Hp → Prop} {j : Nat} {ipos : Pos} (ha : EV X a σ H (Pr X.K R1 R2)) : EV X (.Subscript a (.Constant (.int 0) j ipos) pos) σ H R1 :=
  ev_of (pe_ix ix_tup pe_re pe_int (fun _ _ => rfl)) fun H1 h Q q => ha H1 h _ fun v H2 s2 d => by
    obtain ⟨p, y, z, rfl, h1, h2, h3⟩ := d
    exact ⟨p, _, 0, y, rfl, rfl, h1, rfl, q y H2 s2 h2⟩
theorem ev_ix1 {R1 R2 : V → Hp → Prop} {j : Nat} {ipos : Pos} (ha : EV X a σ H (Pr X.K R1 R2)) : EV X (.Subscript a (.Constant (.int 1) j ipos) pos) σ H R2 :=
  ev_of (pe_ix ix_tup pe_re pe_int (fun _ _ => rfl)) fun H1 h Q q => ha H1 h _ fun v H2 s2 d => by
    obtain ⟨p, y, z, rfl, h1, h2, h3⟩ := d
    exact ⟨p, _, 1, z, rfl, rfl, h1, rfl, q z H2 s2 h3⟩
/-- l[i], i by what is true of it -/
theorem ev_ixP {l : List α} {Pj : Nat → Prop} (ha : ED X a σ H l) (hb : EV X b σ H fun v _ => ∃ i : Nat, v = .int (i : Int) ∧ Pj i) (hx : ∀ i, Pj i → i < l.length) (hpi : ∀ o i, subscripted b false o i = operate [o, i] (getItem o i) := by intro _ _; rfl) :
    EV X (.Subscript a b pos) σ H fun v H1 => ∃ i x, Pj i ∧ l[i]? = some x ∧ DD X.K H1 v x :=
  ev_of (pe_ix ix_list pe_re pe_re hpi) fun H1 h Q q => ha H1 h _ fun v H2 s2 d => hb H2 (h.trans s2) _ fun u H3 s3 ⟨i, eu, pj⟩ => by
    obtain ⟨p, xs, rfl, h1, h2⟩ := dd_lst (dp_same s3 d)
    have hl := hx i pj
    have hx' : l[i]? = some l[i] := List.getElem?_eq_getElem hl
    obtain ⟨y, hy, dy⟩ := dds_get h2 hx'
    exact ⟨p, xs, i, y, rfl, eu, h1, atI_nat hy, q y H3 (s2.trans s3) ⟨i, _, pj, hx', dy⟩⟩
theorem idx_no : ∀ (l : List Int) (x : Int) (m : Nat), m < l.idxOf x → (h : m < l.length) → (l[m] == x) = false
  | [], x, m, _, h => absurd h (Nat.not_lt_zero _)
  | y :: l, x, m, hm, h => by
    rw [List.idxOf_cons] at hm
    by_cases e : (y == x) = true
    · rw [e] at hm
      exact absurd hm (Nat.not_lt_zero _)
    · have e' : (y == x) = false := by simpa using e
      rw [e'] at hm
      cases m with
      | zero => exact e'
      | succ m =>
        have hm' : m < l.idxOf x := by simpa using hm
        exact idx_no l x m hm' (by simpa using h)
/-- l.index(x), x in l -/
theorem ev_index {l : List Int} {x : Int} (ho : ED X o σ H l) (he : ED X e σ H x) (hx : x ∈ l) (hsa : starEach [e] X.env = (false, eval e X.env) :: starEach [] X.env := by rfl)
    (hpe : ∀ {t : TA}, PA X [e] t → PE X (.Call (.Attribute o "index" apos) [e] [] cpos) (tBM X.K "list" (rIndex X.K) (RE X o) t) := by intro t ht; exact pe_bm PySem.F.plainAttrs_list PySem.F.slot_list_index PySem.F.type_list_index mt_index pe_re ht) :
    EV X (.Call (.Attribute o "index" apos) [e] [] cpos) σ H fun v _ => ∃ i : Nat, v = .int (i : Int) ∧ l[i]? = some x := by
  refine ev_of (hpe (pa_cons pe_re pa_nil hsa)) fun H1 h Q q => ho H1 h _ fun v H2 s2 d => ?_
  obtain ⟨p, xs, rfl, h1, h2⟩ := dd_lst d
  refine ⟨.inl ⟨rfl, xs, h1⟩, he H2 (h.trans s2) _ fun u H3 s3 du => ?_⟩
  rw [dd_int du]
  have hxs := dds_ints h2
  subst hxs
  have hi : l.idxOf x < l.length := List.idxOf_lt_length_of_mem hx
  refine ⟨p, _, .int x, l.idxOf x, .int x, rfl, rfl, same_l s3 h1, rfl, ?_, ?_, ?_, fun m z hm hz => ?_, q _ H3 (s2.trans s3) ⟨_, rfl, ?_⟩⟩
  · rw [List.all_map, List.all_eq_true]
    intro _ _
    rfl
  · rw [List.getElem?_map, List.getElem?_eq_getElem hi, List.getElem_idxOf]
    rfl
  · simp [eqV]
  · rw [List.getElem?_map] at hz
    have hml : m < l.length := Nat.lt_trans hm hi
    rw [List.getElem?_eq_getElem hml] at hz
    cases hz
    show (l[m] == x) = false
    exact idx_no l x m hm hml
  · rw [List.getElem?_eq_getElem hi, List.getElem_idxOf]
/-- a datum or None -/
def Od (K : PySem.W.Frag) (x : Option α) : V → Hp → Prop := fun v H => match x with
  | some y => DD K H v y
  | none => v = .non
theorem od_same {K : PySem.W.Frag} {x : Option α} {v : V} {H H' : Hp} (s : Same H H') (h : Od K x v H) : Od K x v H' := by
  cases x with
  | some y => exact dp_same s h
  | none => exact h
theorem dd_nonone {K : PySem.W.Frag} {v : V} {x : Sm} (h : DD K H v x) : v ≠ .non := by
  obtain ⟨a, xs, rfl, _⟩ := dd_tup h
  intro z
  cases z
theorem least_of : ∀ {l : List Int}, l ≠ [] → ∃ m ∈ l, ∀ y ∈ l, m ≤ y
  | [], h => absurd rfl h
  | [x], _ => ⟨x, List.mem_cons_self, fun y hy => by rw [List.mem_singleton.mp hy]; exact Int.le_refl _⟩
  | x :: y :: r, _ => by
    obtain ⟨m, hm, h⟩ := least_of (l := y :: r) (by simp)
    by_cases hx : x ≤ m
    · refine ⟨x, List.mem_cons_self, fun z hz => ?_⟩
      rcases List.mem_cons.mp hz with rfl | hz
      · exact Int.le_refl _
      · exact Int.le_trans hx (h z hz)
    · refine ⟨m, List.mem_cons_of_mem _ hm, fun z hz => ?_⟩
      rcases List.mem_cons.mp hz with rfl | hz
      · omega
      · exact h z hz
end
end GF
set_option Elab.async false
set_option linter.all false
set_option maxRecDepth 100000
set_option maxHeartbeats 4000000
/-! sorted of a tuple; list(range); lists of lists -/
namespace GF
open PySem PySem.Spec PySem.W PyProof.Rows L2
section
variable {prog : Program} {w : World} {A : Around} {E : Value → Shared → Prop} {s : Shared}
theorem collect_tuple {l : Addr} {vs : List Value} {Q : List Value → Shared → Prop} (hl : s.heap.IsTuple l vs.toArray)
    (h : Q vs { s with heap := (s.heap.push (seqObj "list" #[] 0)).update s.heap.objs.size (Obj.mapSeq (· ++ vs.toArray)) }) (hsz : vs.length ≤ sizeLine) :
    wpAny (model prog w) A (collect (.ref l)) Q E s := by
  obtain ⟨o, ho, hc, n, hd⟩ := id hl
  unfold collect
  refine wpAny_bind (wpAny_runValue (codeAny_builtin entry_proto_collect' ?_))
  show wpAny _ _ (do again (.builtin "list.__iadd__" ⟨[← newList [], .ref l], []⟩)) _ _ s
  refine wpAny_bind (wpAny_newList (wpAny_pure ⟨Code.quiet_builtin _ (by decide +kernel), codeAny_builtin entry_list_iadd' ?_⟩))
  show wpAny _ _ (Builtin.List.listExtendWith (.ref s.heap.objs.size) (.ref l) (.ref s.heap.objs.size)) _ _ { s with heap := s.heap.push (seqObj "list" #[] 0) }
  unfold Builtin.List.listExtendWith
  have ho' : (s.heap.push (seqObj "list" #[] 0)).get? l = some o := Heap.get?_push_of_some _ ho
  refine wpAny_bind (wpAny_typeOf (T := "tuple") ⟨o, ho', hc⟩ ?_)
  have ht : (Value.type "tuple" == Value.type "tuple") = true := by rfl
  rw [if_pos (by rw [ht]; simp)]
  refine wpAny_bind (listItems_at ho' hd ?_)
  refine wpAny_bind (listItems_at (xs := #[]) (n := 0) (Heap.get?_push_size _ rfl) rfl ?_)
  rw [if_neg (by simp)]
  refine wpAny_bind (listUpdate_at (xs := #[]) (n := 0) (Heap.get?_push_size _ rfl) rfl ?_ (Nat.zero_le _) (by show (#[] ++ vs.toArray).size ≤ sizeLine + 1; simp only [Array.size_append, List.size_toArray, List.length_nil]; omega))
  refine wpAny_pure ?_
  show wpAny (model prog w) A (do
      let o ← load s.heap.objs.size
      match o.data with
      | .seq xs _ => pure xs.toList
      | _ => unsupported "internal:collect") Q E { s with heap := (s.heap.push (seqObj "list" #[] 0)).update s.heap.objs.size (Obj.mapSeq (· ++ vs.toArray)) }
  refine wpAny_bind (wpAny_load (get?_update_seq (Heap.get?_push_size _ rfl) _) ?_)
  show wpAny _ _ (pure ((#[] : Array Value) ++ vs.toArray).toList) Q E _
  rw [show ((#[] : Array Value) ++ vs.toArray).toList = vs by simp]
  exact wpAny_pure h
theorem sorted_of_tup {l : Addr} {vs : List Value} {kw : List (Str × Value)} {Q : Value → Shared → Prop} (hl : s.heap.IsTuple l vs.toArray) (hL : vs.length ≤ sizeLine) (ha1 : argsOk "sorted" ⟨[.ref l], kw⟩) (ha2 : ∀ x, argsOk "list.sort" ⟨[.ref x], kw⟩)
    (body : ∀ E' : Value → Shared → Prop, wpAny (model prog w) A.in1.in1 (Builtin.«list.sort» ⟨[.ref (s.heap.objs.size + 1)], kw⟩) (fun f s' => f = .done (.ret .none) ∧ Q (.ref (s.heap.objs.size + 1)) s') E' { s with heap := copyHeap s.heap vs }) :
    wpAny (model prog w) A (call (.builtin "sorted") [.ref l] kw) Q E s := by
  refine call_function_entry_kw kind_sorted plain_sorted entry_sorted ha1 ?_
  unfold Builtin.«sorted»
  refine wpAny_bind (m := checkCount "sorted" 1 1 _) (wpAny_pure ?_)
  refine wpAny_bind (collect_tuple hl ?_ hL)
  refine wpAny_bind (wpAny_newList ?_ hL)
  have hsz : ((s.heap.push (seqObj "list" #[] 0)).update s.heap.objs.size (Obj.mapSeq (· ++ vs.toArray))).objs.size = s.heap.objs.size + 1 := by
    rw [Heap.size_update, size_push']
  show wpAny _ _ _ _ _ { s with heap := copyHeap s.heap vs }
  rw [hsz]
  refine wpAny_bind (wpAny_holding (wpAny_call_entry_kw slot_list_sort ⟨_, copyHeap_at s.heap vs, rfl⟩ entry_list_sort ?body (ha2 _)))
  case body =>
    show wpAny (model prog w) A.in1.in1 (Builtin.«list.sort» ⟨[.ref (s.heap.objs.size + 1)], kw⟩) _ _ _
    refine wpAny_mono (body _) (fun f s' hf => ?_) fun _ _ e => e
    obtain ⟨rfl, hq⟩ := hf
    exact ⟨_, rfl, wpAny_pure ⟨_, rfl, hq⟩⟩
theorem sorted_valsT {κ : PyProof.Rows.KeyKind} {l : Addr} {vs : List Value} {Q : Value → Shared → Prop} (hl : s.heap.IsTuple l vs.toArray) (S : SortsAt prog w A.in1.in1 { s with heap := sortingHeap (copyHeap s.heap vs) (s.heap.objs.size + 1) vs } κ vs) (hL : vs.length ≤ sizeLine)
    (h : Q (.ref (s.heap.objs.size + 1)) { s with heap := sortedAll s.heap vs (sortVals κ false vs vs).toArray }) : wpAny (model prog w) A (call (.builtin "sorted") [.ref l]) Q E s :=
  sorted_of_tup hl hL (args_sorted1 _) (fun _ => args_list_sort _) fun _ => list_sort_vals (s := { s with heap := copyHeap s.heap vs }) (copyHeap_at s.heap vs) S hL ⟨rfl, h⟩
end
section
variable {X : Cx} {α : Type} [DecidableEq α] [DatumOrd α]
theorem cr_sortedTt (hd : Datum.depth α ≤ 60) (hu : X.A.units + 128 < cLine) : CallR X (.builtin "sorted") (fun vs H Q => ∃ (v : V) (t : Tup α), vs = [v] ∧ DD X.K H v t ∧ SrtOk t.items ∧
    ∀ zs p, H p = none → DDs X.K H zs (t.items.mergeSort leD) → Q (.ref p) (upd H p (.lst zs))) := by
  intro pins s σ H vs us Q I r h
  obtain ⟨v, ⟨l⟩, rfl, hl, hk, q⟩ := h
  obtain ⟨a, ys, rfl, hs, hy⟩ := dd_tup hl
  obtain ⟨its, rv, hli, hz⟩ := I.tuple hs
  rw [Vals.ref1 r]
  have hlen : its.length = l.length := by rw [← rv.length, dds_length hy]
  have ev := each_of I hy rv
  have hal : AllAlike (l.map (Datum.toD : α → PyData)) := AllAlike.of fun a b => DatumOrd.alike a b
  let h2 := sortingHeap (copyHeap s.heap its) (s.heap.objs.size + 1) its
  have er : EachIs (fun v d => ∃ as, Reads h2 v d as) its (l.map (Datum.toD : α → PyData)) :=
    each_map (R := fun v d => ∃ as, Reads h2 v d as) Datum.toD (ev.mono fun _ _ q => ⟨_, PyProof.Rows.Reads.keeps (fun _ _ => sorting_copy_old) q.2.choose_spec⟩)
  have hun : ∀ d, d ∈ l.map (Datum.toD : α → PyData) → X.A.in1.in1.units + d.depth < cLine := by
    intro d hm
    obtain ⟨b, _, rfl⟩ := List.mem_map.mp hm
    have := Datum.depth_le b
    show X.A.units + 1 + 1 + _ < cLine
    omega
  have S : SortsAt X.prog X.w X.A.in1.in1 { s with heap := h2 } (dataKind h2 (l.map (Datum.toD : α → PyData))) its := by
    rcases hk with hk | ⟨hk, h0⟩
    · exact SortsAt.data (s := { s with heap := h2 }) er hal hk hun
    · exact SortsAt.tups0 (s := { s with heap := h2 }) er hal hk h0 hun
  refine sorted_valsT hli S (by rw [← rv.length]; exact hz) ?_
  have eo := sortVals_data (h' := h2) (R := fun u x => ∃ v, RelV v u ∧ DD X.K H v x) (enc := (Datum.toD : α → PyData)) false (ev.mono fun _ _ q => q.1) (ev.mono fun _ _ q => ⟨_, PyProof.Rows.Reads.keeps (fun _ _ => sorting_copy_old) q.2.choose_spec⟩) hal
  have ee : l.mergeSort (dataLe false (Datum.toD : α → PyData)) = l.mergeSort leD := sort_congr fun a _ b _ => by
    show (!dataLt (Datum.toD b) (Datum.toD a)) = !DatumOrd.lt b a
    rw [DatumOrd.lt_eq]
  rw [ee] at eo
  obtain ⟨zs, z1, z2⟩ := of_each eo
  obtain ⟨ep, he'⟩ := PyProof.Rows.sortedAll_at s.heap its (sortVals (dataKind h2 (l.map (Datum.toD : α → PyData))) false its its).toArray
  have hzl : zs.length ≤ sizeLine := by
    rw [dds_length z2, List.length_mergeSort, ← hlen, ← rv.length]
    exact hz
  exact ⟨.ref _, upd H (s.heap.objs.size + 1) (.lst zs), I.laid (t' := s.toks) (fun _ _ => PyProof.Rows.sortedAll_old) (Nat.le_succ _) ⟨hzl, _, ep, z1, he'⟩, rfl, q _ _ (I.hok.fresh (Nat.le_succ _)) z2⟩
end
section
variable {X : Cx} {σ : L2.St} {H H' : Hp} {e a b c it : Expr} {st : Stmt} {es sts body : List Stmt} {pos p apos cpos px : Pos} {nm : Str} {j : Nat} {D : Ends} {α β : Type} [DecidableEq α] [Datum α] [DecidableEq β] [Datum β]
theorem ed_sortedT {δ : Type} [DecidableEq δ] [DatumOrd δ] {l : Tup δ} (hd : Datum.depth δ ≤ 60) (hu : X.A.units + 128 < cLine) (hB : Bls X.mg) (hg : Gl X "sorted") (ha : ED X a σ H l) (hk : SrtOk l.items) (he : starEach [a] X.env = (false, eval a X.env) :: starEach [] X.env := by rfl) (hpl : (backTo pos (starEach [] X.env)).any (·.1) = false := by rfl) :
    ED X (.Call (.Name "sorted" p) [a] [] pos) σ H (l.items.mergeSort leD) :=
  ev_callB (cr_sortedTt (α := δ) hd hu) hg hB.sorted (by decide +kernel) (ea_cons ha ea_nil he) (fun vs H1 _ d0 Q q => by
    obtain ⟨v, rfl, d⟩ := one_of d0
    exact ⟨v, l, rfl, d, hk, fun zs p hp hz => q _ _ (same_new hp) (dd_ofL (SqL.of upd_same) (dps_same (same_new hp) hz))⟩) (by decide) (by decide) he hpl
/-- list(range(n)) -/
theorem ed_listRg {n : Nat} {p' pos' : Pos} (hc : X.calm = true) (hB : Bls X.mg) (hg : Gl X "list") (hg2 : Gl X "range") (ha : ED X a σ H n) (hn : n ≤ 1000) (h1 : starEach [a] X.env = (false, eval a X.env) :: starEach [] X.env := by rfl)
    (h2 : starEach [.Call (.Name "range" p') [a] [] pos'] X.env = (false, eval (.Call (.Name "range" p') [a] [] pos') X.env) :: starEach [] X.env := by rfl) : ED X (.Call (.Name "list" p) [.Call (.Name "range" p') [a] [] pos'] [] pos) σ H (List.range n) :=
  ev_of (pe_listRg hc hg hB.list (prg_1 hg2 hB.range pe_re h1) h2) fun H1 h Q q => ha H1 h _ fun v H2 s2 d => by
    rw [dd_nat d]
    refine ⟨n, rfl, RgOk.of_le (by omega) (by omega) (by omega) (by omega), fun pn hpn => q _ _ (s2.trans (same_new hpn)) (dd_ofL (SqL.of upd_same) ?_)⟩
    have e : rgV 0 (n : Int) = (List.range n).map fun i : Nat => V.int (i : Int) := by
      unfold rgV
      have : ((n : Int) - 0).toNat = n := by omega
      rw [this]
      refine List.map_congr_left fun i _ => ?_
      rw [Int.zero_add]
    rw [e]
    exact nats_dds _
/-- list(t), a new list -/
theorem el_listT {l : Tup α} (hB : Bls X.mg) (hg : Gl X "list") (ha : ED X a σ H l) (he : starEach [a] X.env = (false, eval a X.env) :: starEach [] X.env := by rfl) (hpl : (backTo pos (starEach [] X.env)).any (·.1) = false := by rfl) : EL X (.Call (.Name "list" p) [a] [] pos) σ H fun ys H2 => DDs X.K H2 ys l.items := fun H1 h Q q => by
  have pe : PE X (.Call (.Name "list" p) [a] [] pos) _ := pe_callTy call_list_of hg hB.list (by decide +kernel) (pa_cons pe_re pa_nil he) (by decide) (by decide) he hpl
  refine re_of pe (ha H1 h _ fun v H2 s2 d => ?_)
  obtain ⟨ad, xs, rfl, h1, h2⟩ := dd_tup d
  exact ⟨ad, xs, rfl, .inr h1, fun l hl => q _ _ _ (s2.free hl) (s2.trans (same_new hl)) upd_same (dps_same (same_new hl) h2)⟩
/-- l + m, a new list -/
theorem el_catL {t u : List α} (ha : ED X a σ H t) (hb : ED X b σ H u) (hz : t.length + u.length ≤ sizeLine) : EL X (.BinOp a .Add b pos) σ H fun ys H2 => DDs X.K H2 ys (t ++ u) := fun H1 h Q q =>
  re_of (pe_op (op_addL (α := α)) pe_re pe_re) (ha H1 h _ fun v H2 s2 d2 => hb H2 (h.trans s2) _ fun w H3 s3 d3 => ⟨t, u, dp_same s3 d2, d3, hz, fun zs p hp dz => q _ _ _ ((s2.trans s3).free hp) ((s2.trans s3).trans (same_new hp)) upd_same (dps_same (same_new hp) dz)⟩)
/-- loops that keep what they walk in sight as it stood -/
theorem rs_forL0 {R : V → Hp → Prop} {xs : List α} (hp : PassesOwn (model X.prog X.w) X.A X.env X.xe) (hc : X.calm = true) (hi : EV X it σ H R) (hg : PG X (.Name nm px) (gName j))
    (k : ∀ v H1, Same H H1 → R v H1 → ∃ (H0 : Hp) (P : Nat → L2.St → Hp → Prop), DD X.K H0 v xs ∧ P 0 σ H1 ∧ (∀ i σ' H', P i σ' H' → Same H0 H') ∧
      (∀ i x u σ' H', xs[i]? = some x → P i σ' H' → DD X.K H0 u x → RB X body { D with nx := P (i + 1), ct := P (i + 1), bk := D.nx } (σ'.set j (some u)) H') ∧ (∀ σ' H', P xs.length σ' H' → D.nx σ' H'))
    (hs : ∀ x, foldedSetIterable it X.env x = pure x := by intro _; rfl) : RS X (.For (.Name nm px) it body [] pos) D σ H := by
  refine rs_of (ps_for hp hc (pi_list pe_re) hg pss_rb hs) (hi H (Same.refl H) _ fun v H1 s r => ?_)
  obtain ⟨H0, P, dv, p0, pk, ps, pd⟩ := k v H1 s r
  obtain ⟨a, vs, rfl, h1, h2⟩ := dd_lst dv
  refine ⟨a, rfl, ⟨vs, same_l (pk 0 σ H1 p0) h1⟩, for_list (K := X.K) (a := a) (xs := vs) P p0 (fun i σ' H' _ p => same_l (pk i σ' H' p) h1) (fun i v σ' H' hv p => ?_) (fun σ' H' p => pd σ' H' (by rw [← dds_length h2]; exact p))⟩
  obtain ⟨x, hx, dx⟩ := dds_at h2 hv
  exact ps i x v σ' H' hx p dx
theorem rs_forEL0 {R : V → Hp → Prop} {xs : List α} {n1 n2 : Str} {p1 p2 tpos epos : Pos} {kk j1 j2 : Nat} (hp : PassesOwn (model X.prog X.w) X.A X.env X.xe) (hc : X.calm = true) (hB : Bls X.mg) (hgl : Gl X "enumerate") (hi : EV X it σ H R) (hg : PG X (.Tuple [.Name n1 p1, .Name n2 p2] kk tpos) (gTup X.K 2 (gCons (gName j1) (gCons (gName j2) gNil))))
    (k : ∀ v H1, Same H H1 → R v H1 → ∃ (H0 : Hp) (P : Nat → L2.St → Hp → Prop), DD X.K H0 v xs ∧ P 0 σ H1 ∧ (∀ i σ' H', P i σ' H' → Same H0 H') ∧
      (∀ i x u T ys σ' H', xs[i]? = some x → P i σ' H' → H' T = none → DD X.K H0 u x → RB X body { D with nx := P (i + 1), ct := P (i + 1), bk := D.nx } ((σ'.set j1 (some (.int (i : Int)))).set j2 (some u)) (upd H' T (.tup ys))) ∧ (∀ σ' H', P xs.length σ' H' → D.nx σ' H'))
    (hs : ∀ x, foldedSetIterable (.Call (.Name "enumerate" p) [it] [] epos) X.env x = pure x := by intro _; rfl) (hs1 : starEach [it] X.env = [(false, eval it X.env)] := by rfl) (he1 : starEach [it] X.env = (false, eval it X.env) :: starEach [] X.env := by rfl) :
    RS X (.For (.Tuple [.Name n1 p1, .Name n2 p2] kk tpos) (.Call (.Name "enumerate" p) [it] [] epos) body [] pos) D σ H := by
  refine rs_of (ps_for hp hc (pi_enum hgl hB.enumerate (pa_cons pe_re pa_nil he1) hs1) hg pss_rb hs) (hi H (Same.refl H) _ fun v H1 s r => ?_)
  obtain ⟨H0, P, dv, p0, pk, ps, pd⟩ := k v H1 s r
  obtain ⟨a, vs, rfl, h1, h2⟩ := dd_lst dv
  refine ⟨a, vs, rfl, same_l (pk 0 σ H1 p0) h1, for_it (walk_enum (K := X.K) (a := a) (xs := vs)) P p0 (fun i σ' H' _ p => same_l (pk i σ' H' p) h1) (fun i v σ' H' H'' hi p y => ?_) (fun σ' H' p => pd σ' H' (by rw [← dds_length h2]; exact p))⟩
  obtain ⟨T', y1, y2, rfl, hT', rfl, z1, z2⟩ := y
  cases z1
  obtain ⟨x, hx, dx⟩ := dds_at h2 z2
  exact ⟨T', _, rfl, SqT.of upd_same, rfl, _, _, rfl, _, _, rfl, rfl, ps i x _ T' _ σ' H' hx p hT' dx⟩
/-- [x for x in l if ..] of what may be lists -/
theorem el_lcF {xs : List α} {gs : α → Bool} {ifs : List Expr} {scope : Scope} {iter : Expr} {px' : Pos} (hc : X.calm = true) (hN : X.N.Nodup) (ok : BlkOk X.N X.env.scope scope [(nm, j)]) (h : ED X iter σ H xs) (hz : xs.length < 10000000)
    (ht : ∀ x v H1 s H0 C cl fp, x ∈ xs → Same H H1 → DD X.K H1 v x → ETs (Bk X scope s H0 C cl fp) ifs (σ.set j (some v)) H1 (gs x))
    (hv : ∀ (s : Shared) (H0 : Hp) (C : Addr) (cl : List (Str × Addr)) (fp : List Addr) (v : V) (H1 : Hp) (Q : VK), Q v H1 → RE (Bk X scope s H0 C cl fp) (.Name nm px') (σ.set j (some v)) H1 Q)
    (hg : ∀ (s : Shared) (H : Hp) (C : Addr) (cl : List (Str × Addr)) (fp : List Addr), PG (Bk X scope s H C cl fp) (.Name nm px) (gName j)) (hs : ∀ x, foldedSetIterable iter X.env x = pure x := by intro _; rfl) :
    LC X (.Name nm px') (.Name nm px) iter ifs scope σ H (fun ys H2 => DDs X.K H2 ys (xs.filter gs)) := by
  refine ⟨hc, hN, _, _, [(nm, j)], pi_list pe_re, ok, hg, hs, ?_⟩
  intro H1 h1 Q q
  refine h H1 h1 _ fun v H2 s2 d => ?_
  obtain ⟨a, vs, rfl, k1, k2⟩ := dd_lst d
  refine ⟨a, rfl, ⟨vs, k1⟩, fun D hD => ?_⟩
  refine lc_it (walk_list (K := X.K) (a := a) (xs := vs)) (fun i H' => Same H2 H' ∧ ∃ ys, H' D = some (.lst ys) ∧ DDs X.K H2 ys ((xs.take i).filter gs)) ?_ (fun i H' _ p => same_l p.1 k1) ?_ ?_
  · exact ⟨same_new hD, [], upd_same, .nil⟩
  · intro i v H3 H4 hi ⟨s3, ys, hys, hd⟩ y
    obtain ⟨e1, hv0⟩ := y
    subst e1
    obtain ⟨x, hx, dx⟩ := dds_at k2 hv0
    have hm : x ∈ xs := List.mem_of_getElem? hx
    have ew : List.set (wipe σ (List.map (fun x => x.snd) [(nm, j)])) j (some v) = σ.set j (some v) := wipe1
    show wipe (List.set (wipe σ (List.map (fun x => x.snd) [(nm, j)])) j (some v)) [j] = wipe σ [j] ∧ ttB X scope ifs (List.set (wipe σ (List.map (fun x => x.snd) [(nm, j)])) j (some v)) _ _
    rw [ew]
    refine ⟨by show (σ.set j (some v)).set j none = σ.set j none; rw [set_set'], ?_⟩
    intro s H0 C cl fp
    obtain ⟨tt, t1, t2⟩ := ht x v H4 s H0 C cl fp hm ((h1.trans s2).trans s3) (dp_same s3 dx)
    refine ⟨tt, t1, t2 H4 (Same.refl H4) _ fun H5 s5 => ?_⟩
    cases hgx : gs x with
    | true =>
      rw [if_pos rfl]
      intro s0 H00 C0 cl0 fp0
      refine hv s0 H00 C0 cl0 fp0 v H5 _ ?_
      have el := dds_length hd
      have hl : ys.length < sizeLine := by
        rw [el]
        refine Nat.lt_of_le_of_lt (List.length_filter_le _ _) ?_
        rw [List.length_take]
        exact Nat.lt_of_le_of_lt (Nat.min_le_right _ _) (Nat.lt_trans hz (by decide))
      refine ⟨ys, s5 D _ hys, hl, same_mut (s3.trans s5) hD, ys ++ [v], upd_same, ?_⟩
      rw [take_succ_at hx, List.filter_append, List.filter_cons, if_pos hgx]
      exact dds_append hd (dds_one dx)
    | false =>
      rw [if_neg (by decide)]
      refine ⟨s3.trans s5, ys, s5 D _ hys, ?_⟩
      rw [take_succ_at hx, List.filter_append, List.filter_cons, if_neg (by rw [hgx]; decide)]
      simpa using hd
  · rintro H' ⟨s3, ys, hys, hd⟩
    have hl : (xs.take vs.length) = xs := by rw [dds_length k2, List.take_length]
    rw [hl] at hd
    exact q D ys H' (s2.free hD) (s2.trans s3) hys (dps_same s3 hd)
end
end GF
set_option Elab.async false
set_option linter.all false
set_option maxRecDepth 100000
set_option maxHeartbeats 4000000
namespace GF
open PySem PySem.Spec PySem.W PyProof.Rows L2
section
variable {P : Program} {w : World} {K : PySem.W.Frag} {mg : Str → Option Value} {base : Heap} {f : Addr} {fd : FuncData}
theorem u64 {k : Nat} {A : Around} (h : Room k A) : A.units + 64 < cLine := by have := h.un; omega
theorem u128 {k : Nat} {A : Around} (h : Room k A) : A.units + 128 < cLine := by have := h.un; omega
def p_is_whole (K : PySem.W.Frag) : List PyData → (V → Hp → Prop) → Prop := fun ds R => ∃ i : Int, ds = [Datum.toD i] ∧ R = Gv K true
theorem sc9 : FnScope ["thing"] ["thing"] (defScope (top 9)) := ⟨rfl, rfl, rfl, by decide +kernel, rfl, by decide +kernel, by decide +kernel⟩
theorem ok_is_whole (F : FD K "is_whole" 9 f fd) (hm : mg "is_whole" = some (.ref f)) (hB : Bls mg)  : Cal P w K mg base "is_whole" 1 (SpD K (p_is_whole K)) := by
  refine cal_of F sc9 hm (fun _ _ _ _ _ _ us hl => match us, hl with | [_], _ => rfl) (fun ds R h => by obtain ⟨i, rfl, rfl⟩ := h; rfl) (fun cdv A outer s H vs E ds R hr d0 h => ?_)
  obtain ⟨i, rfl, rfl⟩ := h
  obtain ⟨v1, rfl, d1⟩ := one_of d0

  refine rb_one (rs_ret (ed_and (k := true) (m := true) (ed_isi (T := "int") hB (by rfl) (by rfl) hB.int (by decide +kernel) (ed_var 0 rfl d1) (fun _ _ => tyx_int) (by decide +kernel)) fun _ => ed_one (ed_not (k := false) (ed_isi (T := "bool") hB (by rfl) (by rfl) hB.bool (by decide +kernel) (ed_var 0 rfl d1) (fun _ _ => tyx_int) (by decide +kernel)))) fun v H1 s d => ⟨s, d⟩)
def p_is_from (K : PySem.W.Frag) : List PyData → (V → Hp → Prop) → Prop := fun ds R => ∃ i l m : Int, ds = [Datum.toD i, Datum.toD l, Datum.toD m] ∧ R = Gv K (decide (l ≤ i) && decide (i ≤ m))
theorem sc10 : FnScope ["thing", "least", "most"] ["thing", "least", "most"] (defScope (top 10)) := ⟨rfl, rfl, rfl, by decide +kernel, rfl, by decide +kernel, by decide +kernel⟩
theorem ok_is_from (F : FD K "is_from" 10 f fd) (hm : mg "is_from" = some (.ref f)) (hB : Bls mg) (C_is_whole : Cal P w K mg base "is_whole" 1 (SpD K (p_is_whole K))) : Cal P w K mg base "is_from" 2 (SpD K (p_is_from K)) := by
  refine cal_of F sc10 hm (fun _ _ _ _ _ _ us hl => match us, hl with | [_, _, _], _ => rfl) (fun ds R h => by obtain ⟨i, l, m, rfl, rfl⟩ := h; rfl) (fun cdv A outer s H vs E ds R hr d0 h => ?_)
  obtain ⟨i, l, m, rfl, rfl⟩ := h
  obtain ⟨v1, v2, v3, rfl, d1, d2, d3⟩ := three_of d0

  refine rb_one (rs_ret (ed_and (k := true) (ev_call C_is_whole hr (by rfl) (ea_cons (ed_var 0 rfl d1) ea_nil) ⟨i, rfl, rfl⟩) fun _ => ed_one (ed_chain (ed_var 1 rfl d2) (ed_var 0 rfl d1) (ed_var 2 rfl d3))) fun v H1 s d => ⟨s, d⟩)
def p_is_tie (K : PySem.W.Frag) : List PyData → (V → Hp → Prop) → Prop := fun ds R => ∃ (q : Nat × Nat) (n : Nat), ds = [Datum.toD q, Datum.toD n] ∧ q.1 < q.2 ∧ q.2 < n ∧ R = Gv K true
theorem sc11 : FnScope ["thing", "many"] ["thing", "many"] (defScope (top 11)) := ⟨rfl, rfl, rfl, by decide +kernel, rfl, by decide +kernel, by decide +kernel⟩
theorem ok_is_tie (F : FD K "is_tie" 11 f fd) (hm : mg "is_tie" = some (.ref f)) (hB : Bls mg) (C_is_from : Cal P w K mg base "is_from" 2 (SpD K (p_is_from K))) : Cal P w K mg base "is_tie" 3 (SpD K (p_is_tie K)) := by
  refine cal_of F sc11 hm (fun _ _ _ _ _ _ us hl => match us, hl with | [_, _], _ => rfl) (fun ds R h => by obtain ⟨q, n, rfl, h1, h2, rfl⟩ := h; rfl) (fun cdv A outer s H vs E ds R hr d0 h => ?_)
  obtain ⟨q, n, rfl, h1, h2, rfl⟩ := h
  obtain ⟨v1, v2, rfl, d1, d2⟩ := two_of d0

  refine rb_cons (rs_ifF (et_of_ew (ew_or (k := false) (m := false) (et_not (k := true) (et_val (ed_isi (T := "tuple") hB (by rfl) (by rfl) hB.tuple (by decide +kernel) (ed_var 0 rfl d1) (fun _ _ => tyx_pair) (by decide +kernel)))) fun _ =>
    ew_or1 (et_is (et_cmp (ec_ne (by decide) (u64 hr) (ed_lenP hB (by rfl) (ed_var 0 rfl d1)) (ed_nat 2))) (by decide)))) fun H1 s1 => ?_)
  refine rb_nil (rb_one (rs_ret (ed_and (k := true) (m := true) (ed_is (ev_call C_is_from hr (by rfl) (ea_cons (ed_fst (x := q) (ed_var 0 rfl (dp_same s1 d1))) (ea_cons ed_int (ea_cons (ed_sub (ed_var 1 rfl (dp_same s1 d2)) ed_int) ea_nil))) ⟨(q.1 : Int), 0, (n : Int) - 1, rfl, rfl⟩) ?_) fun _ =>
    ed_one (ed_is (ev_call C_is_from hr (by rfl) (ea_cons (ed_snd (x := q) (ed_var 0 rfl (dp_same s1 d1))) (ea_cons (ed_add (ed_fst (x := q) (ed_var 0 rfl (dp_same s1 d1))) ed_int) (ea_cons (ed_sub (ed_var 1 rfl (dp_same s1 d2)) ed_int) ea_nil))) ⟨(q.2 : Int), (q.1 : Int) + 1, (n : Int) - 1, rfl, rfl⟩) ?_)) fun v H1 s d => ⟨s1.trans s, d⟩))
  all_goals
    rw [Bool.and_eq_true_iff]
    exact ⟨decide_eq_true (by omega), decide_eq_true (by omega)⟩
end
end GF
set_option Elab.async false
set_option linter.all false
set_option maxRecDepth 100000
set_option maxHeartbeats 4000000
namespace GF
open PySem PySem.Spec PySem.W PyProof.Rows L2
section
variable {P : Program} {w : World} {K : PySem.W.Frag} {mg : Str → Option Value} {base : Heap} {f : Addr} {fd : FuncData}
theorem ed_subN {X : Cx} {σ : L2.St} {H : Hp} {a b : Expr} {pos : Pos} {i j : Nat} (ha : ED X a σ H i) (hb : ED X b σ H j) (h : j ≤ i) : ED X (.BinOp a .Sub b pos) σ H (i - j) := by
  have e : ED X (.BinOp a .Sub b pos) σ H ((i : Int) - (j : Int)) := ed_sub ha hb
  have e2 : ((i : Int) - (j : Int)) = ((i - j : Nat) : Int) := by omega
  rw [e2] at e
  exact e
theorem pw_at {l : List (Nat × Nat)} (h : l.Pairwise fun x y => DatumOrd.lt x y = true) {i : Nat} {x y : Nat × Nat} (hx : l[i]? = some x) (hy : l[i + 1]? = some y) : DatumOrd.lt x y = true := by
  obtain ⟨h1, rfl⟩ := List.getElem?_eq_some_iff.mp hx
  obtain ⟨h2, rfl⟩ := List.getElem?_eq_some_iff.mp hy
  exact List.pairwise_iff_getElem.mp h i (i + 1) h1 h2 (Nat.lt_succ_self i)
theorem pwn_at {l : List Nat} (h : l.Pairwise (· < ·)) {i : Nat} {x y : Nat} (hx : l[i]? = some x) (hy : l[i + 1]? = some y) : x < y := by
  obtain ⟨h1, rfl⟩ := List.getElem?_eq_some_iff.mp hx
  obtain ⟨h2, rfl⟩ := List.getElem?_eq_some_iff.mp hy
  exact List.pairwise_iff_getElem.mp h i (i + 1) h1 h2 (Nat.lt_succ_self i)
def p_is_web (K : PySem.W.Frag) : List PyData → (V → Hp → Prop) → Prop := fun ds R => ∃ W : Wb, ds = [Datum.toD W] ∧ VW W ∧ R = Gv K true
theorem sc12 : FnScope ["thing", "at", "tie"] ["thing"] (defScope (top 12)) := ⟨rfl, rfl, rfl, by decide +kernel, rfl, by decide +kernel, by decide +kernel⟩
theorem ok_is_web (F : FD K "is_web" 12 f fd) (hm : mg "is_web" = some (.ref f)) (hB : Bls mg) (C_is_from : Cal P w K mg base "is_from" 2 (SpD K (p_is_from K))) (C_is_tie : Cal P w K mg base "is_tie" 3 (SpD K (p_is_tie K))) (hM : ∃ t, mg "MOST_PLACES" = some (.int 8 t)) : Cal P w K mg base "is_web" 4 (SpD K (p_is_web K)) := by
  refine cal_of F sc12 hm (fun _ _ _ _ _ _ us hl => match us, hl with | [_], _ => rfl) (fun ds R h => by obtain ⟨W, rfl, hW, rfl⟩ := h; rfl) (fun cdv A outer s H vs E ds R hr d0 h => ?_)
  obtain ⟨W, rfl, hW, rfl⟩ := h
  obtain ⟨v1, rfl, d1⟩ := one_of d0

  obtain ⟨w1, w8, wt, wp⟩ := hW
  refine rb_cons (rs_ifF (et_of_ew (ew_or (k := false) (m := false) (et_not (k := true) (et_val (ed_isi (T := "tuple") hB (by rfl) (by rfl) hB.tuple (by decide +kernel) (ed_var 0 rfl d1) (fun _ _ => tyx_pair) (by decide +kernel)))) fun _ =>
    ew_or (k := false) (m := false) (et_is (et_cmp (ec_ne (by decide) (u64 hr) (ed_lenP hB (by rfl) (ed_var 0 rfl d1)) (ed_nat 2))) (by decide)) fun _ =>
    ew_or1 (et_not (k := true) (et_val (ed_is (ev_call C_is_from (hr.mono (by decide)) (by rfl) (ea_cons (ed_fst (x := W) (ed_var 0 rfl d1)) (ea_cons ed_int (ea_cons (ed_globI (by rfl) hM) ea_nil))) ⟨(W.1 : Int), 1, 8, rfl, rfl⟩) ?_))))) fun H1 s1 => rb_nil ?_)
  · rw [Bool.and_eq_true_iff]
    exact ⟨decide_eq_true (by omega), decide_eq_true (by omega)⟩
  replace d1 := dp_same s1 d1
  refine rb_cons (rs_ifF (et_not (k := true) (et_val (ed_isi (T := "tuple") hB (by rfl) (by rfl) hB.tuple (by decide +kernel) (ed_snd (x := W) (ed_var 0 rfl d1)) (fun _ _ => tyx_tup) (by decide +kernel)))) fun H2 s2 => rb_nil ?_)
  replace d1 := dp_same s2 d1
  refine rb_cons (rs_forET (j1 := 1) (j2 := 2) (xs := W.2) PassesOwn.never rfl hB (by rfl) (ed_snd (x := W) (ed_var 0 rfl d1)) (pg_tup rfl (pgs_cons (pg_name (i := 1) sc12.nd rfl (Or.inl rfl)) (pgs_cons (pg_name (i := 2) sc12.nd rfl (Or.inl rfl)) pgs_nil))) fun v H3 s3 dv =>
    ⟨H3, fun i σ' H' => Same H3 H' ∧ ∃ a b, σ' = [some v1, a, b], dv, ⟨Same.refl _, none, none, rfl⟩, fun i σ' H' q => q.1, ?_, ?_⟩)
  · rintro i q u σ' H' H'' hx ⟨s4, a, b, rfl⟩ s5 du
    have d1' := dp_same ((s3.trans s4).trans s5) d1
    have hq := wt q (List.mem_of_getElem? hx)
    have di : DD K H'' (.int (i : Int)) i := .int _
    refine rb_one (rs_ifF (et_of_ew (ew_or (k := false) (m := false) (et_not (k := true) (et_val (ev_call C_is_tie (hr.mono (by decide)) (by rfl) (ea_cons (ed_var 2 rfl du) (ea_cons (ed_fst (x := W) (ed_var 0 rfl d1')) ea_nil)) ⟨q, W.1, rfl, hq.1, hq.2, rfl⟩))) fun _ =>
      ew_or1 (et_is (et_of_ew (ew_and (k := decide ((0 : Int) < (i : Int))) (m := false) (et_cmp (ec_gt (ed_var 1 rfl di) ed_int)) fun hi => ew_and1 ?_)) (Bool.and_false _)))) fun H5 s6 => rb_nil ⟨(s4.trans s5).trans s6, _, _, rfl⟩)
    have hi0 : 0 < i := by
      have := of_decide_eq_true hi
      omega
    obtain ⟨j, rfl⟩ : ∃ j, i = j + 1 := ⟨i - 1, by omega⟩
    obtain ⟨q', hq'⟩ : ∃ q', W.2.items[j]? = some q' := by
      have := (List.getElem?_eq_some_iff.mp hx).1
      exact ⟨_, List.getElem?_eq_getElem (by omega)⟩
    refine et_is (et_cmp (ec_leT (by decide) (u64 hr) (ed_var 2 rfl du) (ed_ixT (l := W.2) (i := j + 1 - 1) (ed_snd (x := W) (ed_var 0 rfl d1')) (ed_subN (i := j + 1) (j := 1) (ed_var 1 rfl di) (ed_nat 1) (by omega)) hq'))) ?_
    rw [pw_at wp hq' hx]
    rfl
  · rintro σ' H' ⟨s4, a, b, rfl⟩
    exact rb_one (rs_ret ed_bl fun v H5 s5 d => ⟨(((s1.trans s2).trans s3).trans s4).trans s5, d⟩)
def p_must_web (K : PySem.W.Frag) : List PyData → (V → Hp → Prop) → Prop := fun ds R => ∃ W : Wb, ds = [Datum.toD W] ∧ VW W ∧ R = Gv K ()
theorem sc13 : FnScope ["web"] ["web"] (defScope (top 13)) := ⟨rfl, rfl, rfl, by decide +kernel, rfl, by decide +kernel, by decide +kernel⟩
theorem ok_must_web (F : FD K "must_web" 13 f fd) (hm : mg "must_web" = some (.ref f)) (hB : Bls mg) (C_is_web : Cal P w K mg base "is_web" 4 (SpD K (p_is_web K))) : Cal P w K mg base "must_web" 5 (SpD K (p_must_web K)) := by
  refine cal_of F sc13 hm (fun _ _ _ _ _ _ us hl => match us, hl with | [_], _ => rfl) (fun ds R h => by obtain ⟨W, rfl, hW, rfl⟩ := h; rfl) (fun cdv A outer s H vs E ds R hr d0 h => ?_)
  obtain ⟨W, rfl, hW, rfl⟩ := h
  obtain ⟨v1, rfl, d1⟩ := one_of d0

  exact rb_one (rs_ifF (et_not (k := true) (et_val (ev_call C_is_web hr (by rfl) (ea_cons (ed_var 0 rfl d1) ea_nil) ⟨W, rfl, hW, rfl⟩))) fun H1 s1 => rb_nil ⟨s1, .non⟩)
def p_is_place (K : PySem.W.Frag) : List PyData → (V → Hp → Prop) → Prop := fun ds R => ∃ (W : Wb) (p : Nat), ds = [Datum.toD W, Datum.toD p] ∧ R = Gv K (decide (p < W.1))
theorem sc14 : FnScope ["web", "thing"] ["web", "thing"] (defScope (top 14)) := ⟨rfl, rfl, rfl, by decide +kernel, rfl, by decide +kernel, by decide +kernel⟩
theorem ok_is_place (F : FD K "is_place" 14 f fd) (hm : mg "is_place" = some (.ref f)) (hB : Bls mg) (C_is_from : Cal P w K mg base "is_from" 2 (SpD K (p_is_from K))) : Cal P w K mg base "is_place" 3 (SpD K (p_is_place K)) := by
  refine cal_of F sc14 hm (fun _ _ _ _ _ _ us hl => match us, hl with | [_, _], _ => rfl) (fun ds R h => by obtain ⟨W, p, rfl, rfl⟩ := h; rfl) (fun cdv A outer s H vs E ds R hr d0 h => ?_)
  obtain ⟨W, p, rfl, rfl⟩ := h
  obtain ⟨v1, v2, rfl, d1, d2⟩ := two_of d0

  refine rb_one (rs_ret (ed_is (ev_call C_is_from hr (by rfl) (ea_cons (ed_var 1 rfl d2) (ea_cons ed_int (ea_cons (ed_sub (ed_fst (x := W) (ed_var 0 rfl d1)) ed_int) ea_nil))) ⟨(p : Int), 0, (W.1 : Int) - 1, rfl, rfl⟩) ?_) fun v H1 s d => ⟨s, d⟩)
  rw [decide_eq_true (show (0 : Int) ≤ (p : Int) by omega), Bool.true_and]
  exact decide_eq_decide.mpr (by omega)
def p_are_places (K : PySem.W.Frag) : List PyData → (V → Hp → Prop) → Prop := fun ds R => ∃ (W : Wb) (s : Sm), ds = [Datum.toD W, Datum.toD s] ∧ VS W.1 s ∧ R = Gv K true
theorem sc15 : FnScope ["web", "thing", "at", "place"] ["web", "thing"] (defScope (top 15)) := ⟨rfl, rfl, rfl, by decide +kernel, rfl, by decide +kernel, by decide +kernel⟩
theorem ok_are_places (F : FD K "are_places" 15 f fd) (hm : mg "are_places" = some (.ref f)) (hB : Bls mg) (C_is_place : Cal P w K mg base "is_place" 3 (SpD K (p_is_place K))) : Cal P w K mg base "are_places" 4 (SpD K (p_are_places K)) := by
  refine cal_of F sc15 hm (fun _ _ _ _ _ _ us hl => match us, hl with | [_, _], _ => rfl) (fun ds R h => by obtain ⟨W, z, rfl, hz, rfl⟩ := h; rfl) (fun cdv A outer s H vs E ds R hr d0 h => ?_)
  obtain ⟨W, z, rfl, hz, rfl⟩ := h
  obtain ⟨v1, v2, rfl, d1, d2⟩ := two_of d0

  refine rb_cons (rs_ifF (et_not (k := true) (et_val (ed_isi (T := "tuple") hB (by rfl) (by rfl) hB.tuple (by decide +kernel) (ed_var 1 rfl d2) (fun _ _ => tyx_tup) (by decide +kernel)))) fun H2 s2 => rb_nil ?_)
  replace d1 := dp_same s2 d1
  replace d2 := dp_same s2 d2
  refine rb_cons (rs_forET (j1 := 2) (j2 := 3) (xs := z) PassesOwn.never rfl hB (by rfl) (ed_var 1 rfl d2) (pg_tup rfl (pgs_cons (pg_name (i := 2) sc15.nd rfl (Or.inl rfl)) (pgs_cons (pg_name (i := 3) sc15.nd rfl (Or.inl rfl)) pgs_nil))) fun v H3 s3 dv =>
    ⟨H3, fun i σ' H' => Same H3 H' ∧ ∃ a b, σ' = [some v1, some v2, a, b], dv, ⟨Same.refl _, none, none, rfl⟩, fun i σ' H' q => q.1, ?_, ?_⟩)
  · rintro i q u σ' H' H'' hx ⟨s4, a, b, rfl⟩ s5 du
    have d1' := dp_same ((s3.trans s4).trans s5) d1
    have d2' := dp_same ((s3.trans s4).trans s5) d2
    have hq := hz.2 q (List.mem_of_getElem? hx)
    have di : DD K H'' (.int (i : Int)) i := .int _
    refine rb_one (rs_ifF (et_of_ew (ew_or (k := false) (m := false) (et_not (k := true) (et_val (ed_is (ev_call C_is_place (hr.mono (by decide)) (by rfl) (ea_cons (ed_var 0 rfl d1') (ea_cons (ed_var 3 rfl du) ea_nil)) ⟨W, q, rfl, rfl⟩) (decide_eq_true hq)))) fun _ =>
      ew_or1 (et_is (et_of_ew (ew_and (k := decide ((0 : Int) < (i : Int))) (m := false) (et_cmp (ec_gt (ed_var 2 rfl di) ed_int)) fun hi => ew_and1 ?_)) (Bool.and_false _)))) fun H5 s6 => rb_nil ⟨(s4.trans s5).trans s6, _, _, rfl⟩)
    have hi0 : 0 < i := by
      have := of_decide_eq_true hi
      omega
    obtain ⟨j, rfl⟩ : ∃ j, i = j + 1 := ⟨i - 1, by omega⟩
    obtain ⟨q', hq'⟩ : ∃ q', z.items[j]? = some q' := by
      have := (List.getElem?_eq_some_iff.mp hx).1
      exact ⟨_, List.getElem?_eq_getElem (by omega)⟩
    refine et_is (et_cmp (ec_le (ed_var 3 rfl du) (ed_ixT (l := z) (i := j + 1 - 1) (ed_var 1 rfl d2') (ed_subN (i := j + 1) (j := 1) (ed_var 2 rfl di) (ed_nat 1) (by omega)) hq'))) ?_
    have := pwn_at hz.1 hq' hx
    exact decide_eq_false (by omega)
  · rintro σ' H' ⟨s4, a, b, rfl⟩
    exact rb_one (rs_ret ed_bl fun v H5 s5 d => ⟨((s2.trans s3).trans s4).trans s5, d⟩)
def p_must_places (K : PySem.W.Frag) : List PyData → (V → Hp → Prop) → Prop := fun ds R => ∃ (W : Wb) (s : Sm), ds = [Datum.toD W, Datum.toD s] ∧ VS W.1 s ∧ R = Gv K ()
theorem sc16 : FnScope ["web", "some"] ["web", "some"] (defScope (top 16)) := ⟨rfl, rfl, rfl, by decide +kernel, rfl, by decide +kernel, by decide +kernel⟩
theorem ok_must_places (F : FD K "must_places" 16 f fd) (hm : mg "must_places" = some (.ref f)) (hB : Bls mg) (C_are_places : Cal P w K mg base "are_places" 4 (SpD K (p_are_places K))) : Cal P w K mg base "must_places" 5 (SpD K (p_must_places K)) := by
  refine cal_of F sc16 hm (fun _ _ _ _ _ _ us hl => match us, hl with | [_, _], _ => rfl) (fun ds R h => by obtain ⟨W, z, rfl, hz, rfl⟩ := h; rfl) (fun cdv A outer s H vs E ds R hr d0 h => ?_)
  obtain ⟨W, z, rfl, hz, rfl⟩ := h
  obtain ⟨v1, v2, rfl, d1, d2⟩ := two_of d0

  exact rb_one (rs_ifF (et_not (k := true) (et_val (ev_call C_are_places hr (by rfl) (ea_cons (ed_var 0 rfl d1) (ea_cons (ed_var 1 rfl d2) ea_nil)) ⟨W, z, rfl, hz, rfl⟩))) fun H1 s1 => rb_nil ⟨s1, .non⟩)
def p_must_number (K : PySem.W.Frag) : List PyData → (V → Hp → Prop) → Prop := fun ds R => ∃ i l m : Int, ds = [Datum.toD i, Datum.toD l, Datum.toD m] ∧ l ≤ i ∧ i ≤ m ∧ R = Gv K ()
theorem sc17 : FnScope ["number", "least", "most"] ["number", "least", "most"] (defScope (top 17)) := ⟨rfl, rfl, rfl, by decide +kernel, rfl, by decide +kernel, by decide +kernel⟩
theorem ok_must_number (F : FD K "must_number" 17 f fd) (hm : mg "must_number" = some (.ref f)) (hB : Bls mg) (C_is_from : Cal P w K mg base "is_from" 2 (SpD K (p_is_from K))) : Cal P w K mg base "must_number" 3 (SpD K (p_must_number K)) := by
  refine cal_of F sc17 hm (fun _ _ _ _ _ _ us hl => match us, hl with | [_, _, _], _ => rfl) (fun ds R h => by obtain ⟨i, l, m, rfl, h1, h2, rfl⟩ := h; rfl) (fun cdv A outer s H vs E ds R hr d0 h => ?_)
  obtain ⟨i, l, m, rfl, h1, h2, rfl⟩ := h
  obtain ⟨v1, v2, v3, rfl, d1, d2, d3⟩ := three_of d0

  refine rb_one (rs_ifF (et_not (k := true) (et_val (ed_is (ev_call C_is_from hr (by rfl) (ea_cons (ed_var 0 rfl d1) (ea_cons (ed_var 1 rfl d2) (ea_cons (ed_var 2 rfl d3) ea_nil))) ⟨i, l, m, rfl, rfl⟩) ?_))) fun H1 s1 => rb_nil ⟨s1, .non⟩)
  rw [Bool.and_eq_true_iff]
  exact ⟨decide_eq_true h1, decide_eq_true h2⟩
def p_tied (K : PySem.W.Frag) : List PyData → (V → Hp → Prop) → Prop := fun ds R => ∃ (W : Wb) (p q : Nat), ds = [Datum.toD W, Datum.toD p, Datum.toD q] ∧ R = Gv K (tied W p q)
theorem sc18 : FnScope ["web", "one", "other"] ["web", "one", "other"] (defScope (top 18)) := ⟨rfl, rfl, rfl, by decide +kernel, rfl, by decide +kernel, by decide +kernel⟩
theorem ok_tied (F : FD K "tied" 18 f fd) (hm : mg "tied" = some (.ref f)) (hB : Bls mg)  : Cal P w K mg base "tied" 1 (SpD K (p_tied K)) := by
  refine cal_of F sc18 hm (fun _ _ _ _ _ _ us hl => match us, hl with | [_, _, _], _ => rfl) (fun ds R h => by obtain ⟨W, p, q, rfl, rfl⟩ := h; rfl) (fun cdv A outer s H vs E ds R hr d0 h => ?_)
  obtain ⟨W, p, q, rfl, rfl⟩ := h
  obtain ⟨v1, v2, v3, rfl, d1, d2, d3⟩ := three_of d0

  refine rb_one (rs_ret (ed_is (ed_or (ed_cmp (ec_inT (by decide) (u64 hr) (ed_pair (ed_var 1 rfl d2) (ed_var 2 rfl d3)) (ed_snd (x := W) (ed_var 0 rfl d1)))) fun _ => ed_one (ed_cmp (ec_inT (by decide) (u64 hr) (ed_pair (ed_var 2 rfl d3) (ed_var 1 rfl d2)) (ed_snd (x := W) (ed_var 0 rfl d1))))) ?_) fun v H1 s d => ⟨s, d⟩)
  unfold tied
  exact congr (congrArg or (decide_eq_decide.mpr Iff.rfl)) (decide_eq_decide.mpr Iff.rfl)
end
end GF
set_option Elab.async false
set_option linter.all false
set_option maxRecDepth 100000
set_option maxHeartbeats 4000000
namespace GF
open PySem PySem.Spec PySem.W PyProof.Rows L2
section
variable {P : Program} {w : World} {K : PySem.W.Frag} {mg : Str → Option Value} {base : Heap} {f : Addr} {fd : FuncData}
theorem map_same {α : Type} (l : List α) : l.map (fun x => x) = l := by simp
theorem el_is {X : Cx} {elt tg iter : Expr} {ifs : List Expr} {scope : Scope} {σ : L2.St} {H : Hp} {β : Type} [DecidableEq β] [Datum β] {l m : List β} (h : LC X elt tg iter ifs scope σ H fun ys H2 => DDs X.K H2 ys l) (e : l = m) : LC X elt tg iter ifs scope σ H fun ys H2 => DDs X.K H2 ys m := e ▸ h
theorem found_head : ∀ k, (found k)[0]? = some ⟨[]⟩
  | 0 => rfl
  | k + 1 => by
    have h := found_head k
    have : 0 < (found k).length := (List.getElem?_eq_some_iff.mp h).1
    rw [found, List.getElem?_append_left this, h]
theorem found_ok (k : Nat) : SrtOk (found k) := .inr ⟨fun d hd => by
  obtain ⟨s, _, rfl⟩ := List.mem_map.mp hd
  exact ⟨_, rfl⟩, by rw [List.getElem?_map, found_head]; rfl⟩
theorem ints_ok (l : List Nat) : SrtOk l := Or.inl (Sortable.others fun b => ⟨fun e => (by cases e), fun xs e => (by cases e)⟩)
def p_hood_of (K : PySem.W.Frag) : List PyData → (V → Hp → Prop) → Prop := fun ds R => ∃ (W : Wb) (p : Nat), ds = [Datum.toD W, Datum.toD p] ∧ VW W ∧ R = Gv K (hood W p)
abbrev N19 : List Str := [("web" : Str), ("place" : Str), ("other" : Str)]
theorem sc19 : FnScope [("web" : Str), ("place" : Str), ("other" : Str)] [("web" : Str), ("place" : Str)] (defScope (top 19)) := ⟨rfl, rfl, rfl, by decide +kernel, rfl, by decide +kernel, by decide +kernel⟩
theorem ok_hood_of (F : FD K "hood_of" 19 f fd) (hm : mg "hood_of" = some (.ref f)) (hB : Bls mg) (C_tied : Cal P w K mg base "tied" 1 (SpD K (p_tied K))) : Cal P w K mg base "hood_of" 2 (SpD K (p_hood_of K)) := by
  refine cal_of F sc19 hm (fun _ _ _ _ _ _ us hl => match us, hl with | [_, _], _ => rfl) (fun ds R h => by obtain ⟨W, p, rfl, hW, rfl⟩ := h; rfl) (fun cdv A outer s H vs E ds R hr d0 h => ?_)
  obtain ⟨W, p, rfl, hW, rfl⟩ := h
  obtain ⟨v1, v2, rfl, d1, d2⟩ := two_of d0

  refine rb_one (rs_ret (ed_is (ed_tupleL hB (by rfl) (ed_ofEL (el_of (el_lcR (j := 2) (f := fun x => x) (gs := fun x => decide (x = p) || tied W p x) rfl sc19.nd hB (by rfl) (blkOk_by (N := N19) (sc := defScope (top 19)) (by decide +kernel)) (ed_fst (x := W) (ed_var 0 rfl d1)) (by have := hW.2.1; omega) ?_ ?_ (fun _ _ _ _ _ => pg_name (i := 2) sc19.nd rfl (Or.inl rfl)))))) ?_) fun v H1 s d => ⟨s, d⟩)
  · intro x v H1 s' H0 C cl fp hx sm dv
    exact ets_one (et_of_ew (ew_or (et_cmp (ec_eq (by decide) (u64 hr) (ed_var 2 rfl dv) (ed_var 1 rfl (dp_same sm d2)))) fun _ => ew_or1 (et_val (ev_call C_tied hr (by rfl) (ea_cons (ed_var 0 rfl (dp_same sm d1)) (ea_cons (ed_var 1 rfl (dp_same sm d2)) (ea_cons (ed_var 2 rfl dv) ea_nil))) ⟨W, p, x, rfl, rfl⟩))))
  · intro x v H1 s' H0 C cl fp hx _ sm dv
    exact ee_of (ed_var 2 rfl dv)
  · rw [map_same]
    rfl
def p_all_some (K : PySem.W.Frag) : List PyData → (V → Hp → Prop) → Prop := fun ds R => ∃ W : Wb, ds = [Datum.toD W] ∧ VW W ∧ R = Gv K (allSome W.1)
abbrev N20 : List Str := [("web" : Str), ("found" : Str), ("place" : Str), ("some" : Str)]
theorem sc20 : FnScope [("web" : Str), ("found" : Str), ("place" : Str), ("some" : Str)] [("web" : Str)] (defScope (top 20)) := ⟨rfl, rfl, rfl, by decide +kernel, rfl, by decide +kernel, by decide +kernel⟩
theorem ok_all_some (F : FD K "all_some" 20 f fd) (hm : mg "all_some" = some (.ref f)) (hB : Bls mg)  : Cal P w K mg base "all_some" 1 (SpD K (p_all_some K)) := by
  refine cal_of F sc20 hm (fun _ _ _ _ _ _ us hl => match us, hl with | [_], _ => rfl) (fun ds R h => by obtain ⟨W, rfl, hW, rfl⟩ := h; rfl) (fun cdv A outer s H vs E ds R hr d0 h => ?_)
  obtain ⟨W, rfl, hW, rfl⟩ := h
  obtain ⟨v1, rfl, d1⟩ := one_of d0

  refine rb_cons (rs_set 1 sc20.nd (ed_lst (xs := [(⟨[]⟩ : Sm)]) (ea_cons (ed_tup (α := Nat) (xs := []) ea_nil rfl (by decide)) ea_nil) rfl (by decide)) fun vf H1 s1 df => ?_)
  refine rb_cons (rs_forR (j := 2) (n := W.1) PassesOwn.never rfl hB (by rfl) (ed_fst (x := W) (ed_var 0 rfl (dp_same s1 d1))) (by have := hW.2.1; omega) (pg_name (i := 2) sc20.nd rfl (Or.inr rfl))
    (fun i σ' H' => Same H H' ∧ ∃ vf a b, σ' = [some v1, some vf, a, b] ∧ DD K H' vf (found i)) (fun H2 s2 => ⟨s1.trans s2, vf, none, none, rfl, dp_same s2 df⟩) ?_ ?_)
  · rintro i σ' H' hi ⟨s2, vf, a, b, rfl, df⟩
    have hlen : (found i).length ≤ 256 := by
      rw [found_len]
      exact Nat.le_trans (Nat.pow_le_pow_right (by decide) (show i ≤ 8 by have := hW.2.1; omega)) (by decide)
    refine rb_one (rs_set 1 sc20.nd (ed_catL (t := found i) (u := (found i).map fun s => ⟨s.items ++ [i]⟩) (ed_var 1 rfl df) (ed_is (ed_ofEL (el_of (el_lcL (j := 3) (xs := found i) (f := fun s => (⟨s.items ++ [i]⟩ : Sm)) (gs := fun _ => true) rfl sc20.nd (blkOk_by (N := N20) (sc := defScope (top 20)) (by decide +kernel)) (ed_var 1 rfl df) (by omega) ?_ ?_ (fun _ _ _ _ _ => pg_name (i := 3) sc20.nd rfl (Or.inl rfl))))) (by rw [filter_tt])) ?_) fun v H3 s3 d => ⟨s2.trans s3, v, _, _, rfl, d⟩)
    · intro x v H1 s' H0 C cl fp hx sm dv
      exact ets_nil
    · intro x v H1 s' H0 C cl fp hx _ sm dv
      have hx' := ((found_mem i x).mp hx).len
      refine ee_of (ed_catT (t := x) (u := ⟨[i]⟩) (ed_var 3 rfl dv) (ed_tup (xs := [i]) (ea_cons (ed_var (x := i) 2 rfl (.int _)) ea_nil) rfl (Nat.succ_le_of_lt (by decide))) ?_)
      show x.items.length + 1 ≤ 1000
      have := hW.2.1
      omega
    · rw [List.length_map]
      exact Nat.le_trans (by omega : _ ≤ 1000) (by decide)
  · rintro σ' H' ⟨s2, vf, a, b, rfl, df⟩
    exact rb_one (rs_ret (ed_sorted (δ := Sm) (by decide) (u128 hr) hB (by rfl) (ed_var 1 rfl df) (found_ok _)) fun v H3 s3 d => ⟨s2.trans s3, d⟩)
def p_by_number (K : PySem.W.Frag) : List PyData → (V → Hp → Prop) → Prop := fun ds R => ∃ W : Wb, ds = [Datum.toD W] ∧ VW W ∧ R = Gv K (byNumber W.1)
abbrev N21 : List Str := [("web" : Str), ("found" : Str), ("many" : Str), ("some" : Str)]
theorem sc21 : FnScope [("web" : Str), ("found" : Str), ("many" : Str), ("some" : Str)] [("web" : Str)] (defScope (top 21)) := ⟨rfl, rfl, rfl, by decide +kernel, rfl, by decide +kernel, by decide +kernel⟩
theorem ok_by_number (F : FD K "by_number" 21 f fd) (hm : mg "by_number" = some (.ref f)) (hB : Bls mg) (C_all_some : Cal P w K mg base "all_some" 1 (SpD K (p_all_some K))) : Cal P w K mg base "by_number" 2 (SpD K (p_by_number K)) := by
  refine cal_of F sc21 hm (fun _ _ _ _ _ _ us hl => match us, hl with | [_], _ => rfl) (fun ds R h => by obtain ⟨W, rfl, hW, rfl⟩ := h; rfl) (fun cdv A outer s H vs E ds R hr d0 h => ?_)
  obtain ⟨W, rfl, hW, rfl⟩ := h
  obtain ⟨v1, rfl, d1⟩ := one_of d0

  refine rb_cons (rs_setL 1 sc21.nd el_nil fun l xs H1 hl s1 hl1 hxs => ?_)
  subst hxs
  refine rb_cons (rs_forR (j := 2) (n := W.1 + 1) PassesOwn.never rfl hB (by rfl) (ed_addN (i := W.1) (j := 1) (ed_fst (x := W) (ed_var 0 rfl (dp_same s1 d1))) (ed_nat 1)) (by have := hW.2.1; omega) (pg_name (i := 2) sc21.nd rfl (Or.inr rfl))
    (fun i σ' H' => Same H H' ∧ ∃ a b, σ' = [some v1, some (.ref l), a, b] ∧ ∃ xs, H' l = some (.lst xs) ∧ DDs K (hid H' l) xs ((List.range i).flatMap fun k => (allSome W.1).filter fun s => decide (s.items.length = k))) (fun H2 s2 => ⟨s1.trans s2, none, none, rfl, [], s2 l _ hl1, .nil⟩) ?_ ?_)
  · rintro i σ' H' hi ⟨s2, a, b, rfl, xs, hxs, hds⟩
    have h256 := allSome_256 hW.2.1
    have hlen : xs.length ≤ i * 256 := by
      rw [dds_length hds]
      clear hi hds hxs s2
      clear xs
      induction i with
      | zero => simp
      | succ i ih =>
        rw [List.range_succ, List.flatMap_append, List.flatMap_singleton, List.length_append]
        have := List.length_filter_le (fun s : Sm => decide (s.items.length = i)) (allSome W.1)
        have := ih
        omega
    refine rb_one (rs_extend 1 (ys := (allSome W.1).filter fun s => decide (s.items.length = i)) rfl hxs (el_of (el_is (el_lcL (j := 3) (xs := allSome W.1) (f := fun s => s) (gs := fun s => decide (s.items.length = i)) rfl sc21.nd (blkOk_by (N := N21) (sc := defScope (top 21)) (by decide +kernel)) (ev_call C_all_some hr (by rfl) (ea_cons (ed_var 0 rfl (dp_same s2 d1)) ea_nil) ⟨W, rfl, hW, rfl⟩) (by omega) ?_ ?_ (fun _ _ _ _ _ => pg_name (i := 3) sc21.nd rfl (Or.inl rfl))) (map_same _))) ?_ fun zs H3 s3 dz => ?_)
    · intro x v H1 s' H0 C cl fp hx sm dv
      exact ets_one (et_cmp (ec_eq (by decide) (u64 hr) (ed_lenT hB (by rfl) (ed_var 3 rfl dv)) (ed_var (x := i) 2 rfl (.int _))))
    · intro x v H1 s' H0 C cl fp hx _ sm dv
      exact ee_of (ed_var 3 rfl dv)
    · have := List.length_filter_le (fun s : Sm => decide (s.items.length = i)) (allSome W.1)
      have := hW.2.1
      have : i * 256 ≤ 9 * 256 := Nat.mul_le_mul_right _ (by omega)
      omega
    · refine ⟨same_mut (s2.trans s3) hl, _, _, rfl, _, upd_same, ?_⟩
      rw [hid_upd, List.range_succ, List.flatMap_append, List.flatMap_singleton]
      exact dds_append (dps_same (hid_mono s3) hds) (nolist_all (s3 l _ hxs) dz)
  · rintro σ' H' ⟨s2, a, b, rfl, xs, hxs, hds⟩
    exact rb_one (rs_ret (ed_var (x := byNumber W.1) 1 rfl (dd_ofL (SqL.of hxs) (dps_same hid_same hds))) fun v H3 s3 d => ⟨s2.trans s3, d⟩)
end
end GF
set_option Elab.async false
set_option linter.all false
set_option maxRecDepth 100000
set_option maxHeartbeats 4000000
namespace GF
open PySem PySem.Spec PySem.W PyProof.Rows L2
section
variable {P : Program} {w : World} {K : PySem.W.Frag} {mg : Str → Option Value} {base : Heap} {f : Addr} {fd : FuncData}
theorem pw_at' {α : Type} {R : α → α → Prop} {l : List α} (h : l.Pairwise R) {i : Nat} {x y : α} (hx : l[i]? = some x) (hy : l[i + 1]? = some y) : R x y := by
  obtain ⟨h1, rfl⟩ := List.getElem?_eq_some_iff.mp hx
  obtain ⟨h2, rfl⟩ := List.getElem?_eq_some_iff.mp hy
  exact List.pairwise_iff_getElem.mp h i (i + 1) h1 h2 (Nat.lt_succ_self i)
theorem srt_ne {l : List Sm} (h : ∀ s ∈ l, s.items ≠ []) : SrtOk l := .inl (.inl fun d hd => by
  obtain ⟨s, hs, rfl⟩ := List.mem_map.mp hd
  obtain ⟨i⟩ := s
  cases i with
  | nil => exact absurd rfl (h _ hs)
  | cons x r => exact ⟨_, _, rfl⟩)
theorem VS.up {m n : Nat} {s : Sm} (h : VS m s) (e : m ≤ n) : VS n s := ⟨h.1, fun x hx => Nat.lt_of_lt_of_le (h.2 x hx) e⟩
theorem sortS_len (l : List Nat) : (sortS l).items.length = l.length := by simp [sortS]
theorem cut1 {α : Type} (l : List α) : cutD l (some 1) none = l.drop 1 := by
  unfold cutD
  have e : HT.sIx l.length 0 (some 1) = min 1 l.length := HT.sIx_nat l.length 0 1
  rw [e, HT.sIx_none]
  cases l with
  | nil => rfl
  | cons x r => simp
def mvEl (s : Sm) (p g : Nat) : Sm := sortS ((s.items.filter fun o => decide (o ≠ g)) ++ [p])
theorem movesOf_eq (W : Wb) (s : Sm) (p : Nat) : movesOf W s p = ((s.items.filter fun g => tied W g p).map (mvEl s p)).mergeSort leD := rfl
theorem mvEl_ne (s : Sm) (p g : Nat) : (mvEl s p g).items ≠ [] := by
  intro h
  have := congrArg List.length h
  rw [mvEl, sortS_len] at this
  simp at this
def p_moves_of (K : PySem.W.Frag) : List PyData → (V → Hp → Prop) → Prop := fun ds R => ∃ (W : Wb) (s : Sm) (p : Nat), ds = [Datum.toD W, Datum.toD s, Datum.toD p] ∧ VS 8 s ∧ R = Gv K (movesOf W s p)
abbrev N24 : List Str := [("web" : Str), ("some" : Str), ("place" : Str), ("found" : Str), ("guard" : Str), ("one" : Str)]
theorem sc24 : FnScope [("web" : Str), ("some" : Str), ("place" : Str), ("found" : Str), ("guard" : Str), ("one" : Str)] [("web" : Str), ("some" : Str), ("place" : Str)] (defScope (top 24)) := ⟨rfl, rfl, rfl, by decide +kernel, rfl, by decide +kernel, by decide +kernel⟩
theorem ok_moves_of (F : FD K "moves_of" 24 f fd) (hm : mg "moves_of" = some (.ref f)) (hB : Bls mg) (C_tied : Cal P w K mg base "tied" 1 (SpD K (p_tied K))) : Cal P w K mg base "moves_of" 2 (SpD K (p_moves_of K)) := by
  refine cal_of F sc24 hm (fun _ _ _ _ _ _ us hl => match us, hl with | [_, _, _], _ => rfl) (fun ds R h => by obtain ⟨W, z, p, rfl, hs, rfl⟩ := h; rfl) (fun cdv A outer s H vs E ds R hr d0 h => ?_)
  obtain ⟨W, z, p, rfl, hs, rfl⟩ := h
  obtain ⟨v1, v2, v3, rfl, d1, d2, d3⟩ := three_of d0

  have hlen := hs.len
  refine rb_cons (rs_setL 3 sc24.nd el_nil fun l xs H1 hl s1 hl1 hxs => ?_)
  subst hxs
  refine rb_cons (rs_forT (j := 4) (xs := z) PassesOwn.never rfl (ev_var (R := fun v _ => v = v2) 1 rfl fun _ _ => rfl) (pg_name (i := 4) sc24.nd rfl (Or.inr rfl)) fun v H2 s2 hv => ⟨H, fun i σ' H' => Same H H' ∧ ∃ a b, σ' = [some v1, some v2, some v3, some (.ref l), a, b] ∧
    ∃ ys, H' l = some (.lst ys) ∧ DDs K (hid H' l) ys (((z.items.take i).filter fun g => tied W g p).map (mvEl z p)), ?_, ?_, fun i σ' H' q => q.1, ?_, ?_⟩)
  · rw [hv]
    exact d2
  · exact ⟨s1.trans s2, none, none, rfl, [], s2 l _ hl1, .nil⟩
  · rintro i g u σ' H' hg ⟨s3, a, b, rfl, ys, hys, dys⟩ du
    have hgm := List.mem_of_getElem? hg
    have e1 := dp_same s3 d1
    have e2 := dp_same s3 d2
    have e3 := dp_same s3 d3
    refine rb_one (rs_if (k := tied W g p) (et_val (ev_call C_tied hr (by rfl) (ea_cons (ed_var 0 rfl e1) (ea_cons (ed_var 4 rfl du) (ea_cons (ed_var 2 rfl e3) ea_nil))) ⟨W, g, p, rfl, rfl⟩)) (fun ht H4 s4 => ?_) fun ht H4 s4 => rb_nil ⟨s3.trans s4, _, _, rfl, ys, s4 l _ hys, ?_⟩)
    · have hys4 := s4 l _ hys
      have hyl : ys.length ≤ 8 := by
        rw [dds_length dys, List.length_map]
        refine Nat.le_trans (List.length_filter_le _ _) ?_
        rw [List.length_take]
        omega
      replace e1 := dp_same s4 e1
      replace e2 := dp_same s4 e2
      replace e3 := dp_same s4 e3
      have eu := dp_same s4 du
      have hc1 : ((z.items.filter fun o => decide (o ≠ g)) ++ [p]).length ≤ 9 := by
        have := List.length_filter_le (fun o => decide (o ≠ g)) z.items
        rw [List.length_append]
        show _ + 1 ≤ 9
        omega
      refine rb_one (rs_append (x := mvEl z p g) 3 rfl hys4 (ee_of (ed_is (ed_tupleL hB (by rfl) (ed_sorted (δ := Nat) (l := (z.items.filter fun o => decide (o ≠ g)) ++ [p]) (by decide) (u128 hr) hB (by rfl) (ed_catL (u := [p]) (ed_is (ed_ofEL (el_of (el_lcT (j := 5) (xs := z) (f := fun o => o) (gs := fun o => decide (o ≠ g)) rfl sc24.nd (blkOk_by (N := N24) (sc := defScope (top 24)) (by decide +kernel)) (ed_var 1 rfl e2) (by omega) ?_ ?_ (fun _ _ _ _ _ => pg_name (i := 5) sc24.nd rfl (Or.inl rfl))))) (map_same _)) (ed_lst (xs := [p]) (ea_cons (ed_var 2 rfl e3) ea_nil) rfl (show 1 ≤ 1000 by decide)) ?_) (ints_ok _))) rfl)) (by omega) fun w H5 s5 dw => ?_)
      · intro x v H1 s' H0 C cl fp hx sm dv
        exact ets_one (et_cmp (ec_ne (by decide) (u64 hr) (ed_var 5 rfl dv) (ed_var 4 rfl (dp_same sm eu))))
      · intro x v H1 s' H0 C cl fp hx _ sm dv
        exact ee_of (ed_var 5 rfl dv)
      · rw [List.length_append] at hc1
        exact Nat.le_trans hc1 (by decide)
      · refine ⟨same_mut (s3.trans (s4.trans s5)) hl, _, _, rfl, _, upd_same, ?_⟩
        rw [hid_upd, fm_yes hg ht]
        exact dds_append (dps_same (hid_mono (s4.trans s5)) dys) (dds_one dw)
    · rw [fm_no hg ht]
      exact dps_same (hid_mono s4) dys
  · rintro σ' H' ⟨s3, a, b, rfl, ys, hys, dys⟩
    rw [List.take_length] at dys
    exact rb_one (rs_ret (ed_sorted (δ := Sm) (by decide) (u128 hr) hB (by rfl) (ed_var 3 rfl (dd_ofL (SqL.of hys) (dps_same hid_same dys))) (srt_ne fun t ht => by
      obtain ⟨g, _, rfl⟩ := List.mem_map.mp ht
      exact mvEl_ne _ _ _)) fun v H4 s4 d => ⟨s3.trans s4, d⟩)
def p_must_asked (K : PySem.W.Frag) : List PyData → (V → Hp → Prop) → Prop := fun ds R => ∃ (W : Wb) (s : Sm) (p : Nat), ds = [Datum.toD W, Datum.toD s, Datum.toD p] ∧ VW W ∧ VS W.1 s ∧ p < W.1 ∧ p ∉ s.items ∧ R = Gv K ()
abbrev N25 : List Str := [("web" : Str), ("some" : Str), ("place" : Str)]
theorem sc25 : FnScope [("web" : Str), ("some" : Str), ("place" : Str)] [("web" : Str), ("some" : Str), ("place" : Str)] (defScope (top 25)) := ⟨rfl, rfl, rfl, by decide +kernel, rfl, by decide +kernel, by decide +kernel⟩
theorem ok_must_asked (F : FD K "must_asked" 25 f fd) (hm : mg "must_asked" = some (.ref f)) (hB : Bls mg) (C_must_web : Cal P w K mg base "must_web" 5 (SpD K (p_must_web K))) (C_must_places : Cal P w K mg base "must_places" 5 (SpD K (p_must_places K))) (C_is_place : Cal P w K mg base "is_place" 3 (SpD K (p_is_place K))) : Cal P w K mg base "must_asked" 6 (SpD K (p_must_asked K)) := by
  refine cal_of F sc25 hm (fun _ _ _ _ _ _ us hl => match us, hl with | [_, _, _], _ => rfl) (fun ds R h => by obtain ⟨W, z, p, rfl, hW, hz, hp, hn, rfl⟩ := h; rfl) (fun cdv A outer s H vs E ds R hr d0 h => ?_)
  obtain ⟨W, z, p, rfl, hW, hz, hp, hn, rfl⟩ := h
  obtain ⟨v1, v2, v3, rfl, d1, d2, d3⟩ := three_of d0

  refine rb_cons (rs_expr (ev_call C_must_web hr (by rfl) (ea_cons (ed_var 0 rfl d1) ea_nil) ⟨W, rfl, hW, rfl⟩) fun _ H1 s1 _ => ?_)
  refine rb_cons (rs_expr (ev_call C_must_places hr (by rfl) (ea_cons (ed_var 0 rfl (dp_same s1 d1)) (ea_cons (ed_var 1 rfl (dp_same s1 d2)) ea_nil)) ⟨W, z, rfl, hz, rfl⟩) fun _ H2 s2 _ => ?_)
  replace s2 := s1.trans s2
  exact rb_one (rs_ifF (et_of_ew (ew_or (k := false) (m := false) (et_not (k := true) (et_val (ed_is (ev_call C_is_place (hr.mono (by decide)) (by rfl) (ea_cons (ed_var 0 rfl (dp_same s2 d1)) (ea_cons (ed_var 2 rfl (dp_same s2 d3)) ea_nil)) ⟨W, p, rfl, rfl⟩) (decide_eq_true hp)))) fun _ =>
    ew_or1 (et_is (et_cmp (ec_inT (by decide) (u64 hr) (ed_var 2 rfl (dp_same s2 d3)) (ed_var 1 rfl (dp_same s2 d2)))) (decide_eq_false hn)))) fun H3 s3 => rb_nil ⟨s2.trans s3, .non⟩)
def p_moves (K : PySem.W.Frag) : List PyData → (V → Hp → Prop) → Prop := fun ds R => ∃ (W : Wb) (s : Sm) (p : Nat), ds = [Datum.toD W, Datum.toD s, Datum.toD p] ∧ VW W ∧ VS W.1 s ∧ p < W.1 ∧ p ∉ s.items ∧ R = Gv K (movesOf W s p)
abbrev N26 : List Str := [("web" : Str), ("some" : Str), ("place" : Str)]
theorem sc26 : FnScope [("web" : Str), ("some" : Str), ("place" : Str)] [("web" : Str), ("some" : Str), ("place" : Str)] (defScope (top 26)) := ⟨rfl, rfl, rfl, by decide +kernel, rfl, by decide +kernel, by decide +kernel⟩
theorem ok_moves (F : FD K "moves" 26 f fd) (hm : mg "moves" = some (.ref f)) (hB : Bls mg) (C_must_asked : Cal P w K mg base "must_asked" 6 (SpD K (p_must_asked K))) (C_moves_of : Cal P w K mg base "moves_of" 2 (SpD K (p_moves_of K))) : Cal P w K mg base "moves" 7 (SpD K (p_moves K)) := by
  refine cal_of F sc26 hm (fun _ _ _ _ _ _ us hl => match us, hl with | [_, _, _], _ => rfl) (fun ds R h => by obtain ⟨W, z, p, rfl, hW, hz, hp, hn, rfl⟩ := h; rfl) (fun cdv A outer s H vs E ds R hr d0 h => ?_)
  obtain ⟨W, z, p, rfl, hW, hz, hp, hn, rfl⟩ := h
  obtain ⟨v1, v2, v3, rfl, d1, d2, d3⟩ := three_of d0

  refine rb_cons (rs_expr (ev_call C_must_asked hr (by rfl) (ea_cons (ed_var 0 rfl d1) (ea_cons (ed_var 1 rfl d2) (ea_cons (ed_var 2 rfl d3) ea_nil))) ⟨W, z, p, rfl, hW, hz, hp, hn, rfl⟩) fun _ H1 s1 _ => ?_)
  exact rb_one (rs_ret (ev_call C_moves_of (hr.mono (by decide)) (by rfl) (ea_cons (ed_var 0 rfl (dp_same s1 d1)) (ea_cons (ed_var 1 rfl (dp_same s1 d2)) (ea_cons (ed_var 2 rfl (dp_same s1 d3)) ea_nil))) ⟨W, z, p, rfl, hz.up hW.2.1, rfl⟩) fun v H2 s2 d => ⟨s1.trans s2, d⟩)
def p_without_guard (K : PySem.W.Frag) : List PyData → (V → Hp → Prop) → Prop := fun ds R => ∃ (W : Wb) (s : Sm), ds = [Datum.toD W, Datum.toD s] ∧ W.1 ≤ 8 ∧ R = Gv K (without W s)
abbrev N27 : List Str := [("web" : Str), ("some" : Str), ("place" : Str)]
theorem sc27 : FnScope [("web" : Str), ("some" : Str), ("place" : Str)] [("web" : Str), ("some" : Str)] (defScope (top 27)) := ⟨rfl, rfl, rfl, by decide +kernel, rfl, by decide +kernel, by decide +kernel⟩
theorem ok_without_guard (F : FD K "without_guard" 27 f fd) (hm : mg "without_guard" = some (.ref f)) (hB : Bls mg)  : Cal P w K mg base "without_guard" 1 (SpD K (p_without_guard K)) := by
  refine cal_of F sc27 hm (fun _ _ _ _ _ _ us hl => match us, hl with | [_, _], _ => rfl) (fun ds R h => by obtain ⟨W, z, rfl, hW, rfl⟩ := h; rfl) (fun cdv A outer s H vs E ds R hr d0 h => ?_)
  obtain ⟨W, z, rfl, hW, rfl⟩ := h
  obtain ⟨v1, v2, rfl, d1, d2⟩ := two_of d0

  refine rb_one (rs_ret (ed_is (ed_ofEL (el_of (el_lcR (j := 2) (n := W.1) (f := fun o => o) (gs := fun o => decide (o ∉ z.items)) rfl sc27.nd hB (by rfl) (blkOk_by (N := N27) (sc := defScope (top 27)) (by decide +kernel)) (ed_fst (x := W) (ed_var 0 rfl d1)) (by omega) ?_ ?_ (fun _ _ _ _ _ => pg_name (i := 2) sc27.nd rfl (Or.inl rfl))))) (map_same _)) fun v H1 s1 d => ⟨s1, d⟩)
  · intro x v H1 s' H0 C cl fp hx sm dv
    exact ets_one (et_cmp (ec_ninT (by decide) (u64 hr) (ed_var 2 rfl dv) (ed_var 1 rfl (dp_same sm d2))))
  · intro x v H1 s' H0 C cl fp hx _ sm dv
    exact ee_of (ed_var 2 rfl dv)
def p_answers_in (K : PySem.W.Frag) : List PyData → (V → Hp → Prop) → Prop := fun ds R => ∃ (W : Wb) (s : Sm) (F : List Sm), ds = [Datum.toD W, Datum.toD s, Datum.toD F] ∧ W.1 ≤ 8 ∧ VS 8 s ∧ R = Gv K (answersIn W s F)
abbrev N28 : List Str := [("web" : Str), ("some" : Str), ("family" : Str), ("place" : Str), ("one" : Str)]
theorem sc28 : FnScope [("web" : Str), ("some" : Str), ("family" : Str), ("place" : Str), ("one" : Str)] [("web" : Str), ("some" : Str), ("family" : Str)] (defScope (top 28)) := ⟨rfl, rfl, rfl, by decide +kernel, rfl, by decide +kernel, by decide +kernel⟩
theorem ok_answers_in (F : FD K "answers_in" 28 f fd) (hm : mg "answers_in" = some (.ref f)) (hB : Bls mg) (C_without_guard : Cal P w K mg base "without_guard" 1 (SpD K (p_without_guard K))) (C_moves_of : Cal P w K mg base "moves_of" 2 (SpD K (p_moves_of K))) : Cal P w K mg base "answers_in" 3 (SpD K (p_answers_in K)) := by
  refine cal_of F sc28 hm (fun _ _ _ _ _ _ us hl => match us, hl with | [_, _, _], _ => rfl) (fun ds R h => by obtain ⟨W, z, G, rfl, hW, hz, rfl⟩ := h; rfl) (fun cdv A outer s H vs E ds R hr d0 h => ?_)
  obtain ⟨W, z, G, rfl, hW, hz, rfl⟩ := h
  obtain ⟨v1, v2, v3, rfl, d1, d2, d3⟩ := three_of d0

  refine rb_cons (rs_forL (j := 3) (xs := without W z) PassesOwn.never rfl (ev_call C_without_guard (hr.mono (by decide)) (by rfl) (ea_cons (ed_var 0 rfl d1) (ea_cons (ed_var 1 rfl d2) ea_nil)) ⟨W, z, rfl, hW, rfl⟩) (pg_name (i := 3) sc28.nd rfl (Or.inl rfl)) fun v H1 s1 dv => ⟨H1, fun i σ' H' => Same H1 H' ∧ (∃ a b, σ' = [some v1, some v2, some v3, a, b]) ∧
    ∀ p ∈ (without W z).take i, (movesOf W z p).any (fun m => decide (m ∈ G)) = true, dv, ⟨Same.refl _, ⟨none, none, rfl⟩, fun p hp => by cases hp⟩, fun i σ' H' q => q.1, ?_, ?_⟩)
  · rintro i p u σ' H' hp ⟨s2, ⟨a, b, rfl⟩, hall⟩ du
    have e1 := dp_same (s1.trans s2) d1
    have e2 := dp_same (s1.trans s2) d2
    have e3 := dp_same (s1.trans s2) d3
    have hml : (movesOf W z p).length ≤ 8 := by
      have := hz.len
      rw [movesOf_eq, List.length_mergeSort, List.length_map]
      exact Nat.le_trans (List.length_filter_le _ _) this
    refine rb_one (rs_if (k := !(movesOf W z p).any (fun m => decide (m ∈ G))) (et_not (et_is (et_val (ed_any rfl hB (by rfl) (ed_ofEL (el_of (el_lcL (j := 4) (xs := movesOf W z p) (f := fun m => decide (m ∈ G)) (gs := fun _ => true) rfl sc28.nd (blkOk_by (N := N28) (sc := defScope (top 28)) (by decide +kernel)) (ev_call C_moves_of hr (by rfl) (ea_cons (ed_var 0 rfl e1) (ea_cons (ed_var 1 rfl e2) (ea_cons (ed_var 3 rfl du) ea_nil))) ⟨W, z, p, rfl, hz, rfl⟩) (by omega) ?_ ?_ (fun _ _ _ _ _ => pg_name (i := 4) sc28.nd rfl (Or.inl rfl))))))) ?_)) (fun ht H4 s4 => rb_one (rs_ret ed_bl fun w H5 s5 d => ⟨(s1.trans s2).trans (s4.trans s5), ?_⟩)) fun ht H4 s4 => rb_nil ⟨s2.trans s4, ⟨_, _, rfl⟩, ?_⟩)
    · intro x v H1 s' H0 C cl fp hx sm dv
      exact ets_nil
    · intro x v H1 s' H0 C cl fp hx _ sm dv
      exact ee_of (ed_cmp (ec_inL (by decide) (u64 hr) (ed_var 4 rfl dv) (ed_var 2 rfl (dp_same sm e3))))
    · rw [filter_tt, List.any_map]
      rfl
    · have : answersIn W z G = false := by
        unfold answersIn
        rw [List.all_eq_false]
        exact ⟨p, List.mem_of_getElem? hp, by
          rw [Bool.not_eq_true']  at ht
          rw [ht]
          decide⟩
      show DD K H5 w (answersIn W z G)
      rw [this]
      exact d
    · intro q hq
      rw [take_succ_at hp, List.mem_append, List.mem_singleton] at hq
      rcases hq with hq | rfl
      · exact hall q hq
      · simpa using ht
  · rintro σ' H' ⟨s2, ⟨a, b, rfl⟩, hall⟩
    refine rb_one (rs_ret (ed_bl) fun w H5 s5 d => ⟨(s1.trans s2).trans s5, ?_⟩)
    have : answersIn W z G = true := by
      unfold answersIn
      rw [List.all_eq_true]
      rw [List.take_length] at hall
      exact hall
    show DD K H5 w (answersIn W z G)
    rw [this]
    exact d
def p_is_lasting (K : PySem.W.Frag) : List PyData → (V → Hp → Prop) → Prop := fun ds R => ∃ (W : Wb) (G : List Sm), ds = [Datum.toD W, Datum.toD G] ∧ VW W ∧ G ≠ [] ∧ G.length ≤ 9000000 ∧ (∀ s ∈ G, VS W.1 s) ∧ G.Pairwise (fun s t => DatumOrd.lt s t = true) ∧ R = Gv K (G.all fun s => answersIn W s G)
abbrev N29 : List Str := [("web" : Str), ("thing" : Str), ("one" : Str), ("other" : Str), ("some" : Str)]
theorem sc29 : FnScope [("web" : Str), ("thing" : Str), ("one" : Str), ("other" : Str), ("some" : Str)] [("web" : Str), ("thing" : Str)] (defScope (top 29)) := ⟨rfl, rfl, rfl, by decide +kernel, rfl, by decide +kernel, by decide +kernel⟩
theorem ok_is_lasting (F : FD K "is_lasting" 29 f fd) (hm : mg "is_lasting" = some (.ref f)) (hB : Bls mg) (C_must_web : Cal P w K mg base "must_web" 5 (SpD K (p_must_web K))) (C_answers_in : Cal P w K mg base "answers_in" 3 (SpD K (p_answers_in K))) (C_are_places : Cal P w K mg base "are_places" 4 (SpD K (p_are_places K))) : Cal P w K mg base "is_lasting" 6 (SpD K (p_is_lasting K)) := by
  refine cal_of F sc29 hm (fun _ _ _ _ _ _ us hl => match us, hl with | [_, _], _ => rfl) (fun ds R h => by obtain ⟨W, G, rfl, hW, hne, hsz, hG, hpw, rfl⟩ := h; rfl) (fun cdv A outer s H vs E ds R hr d0 h => ?_)
  obtain ⟨W, G, rfl, hW, hne, hsz, hG, hpw, rfl⟩ := h
  obtain ⟨v1, v2, rfl, d1, d2⟩ := two_of d0

  refine rb_cons (rs_expr (ev_call C_must_web (hr.mono (by decide)) (by rfl) (ea_cons (ed_var 0 rfl d1) ea_nil) ⟨W, rfl, hW, rfl⟩) fun _ H1 s1 _ => ?_)
  replace d1 := dp_same s1 d1
  replace d2 := dp_same s1 d2
  refine rb_cons (rs_ifF (et_of_ew (ew_or (k := false) (m := false) (et_not (k := true) (et_val (ed_isi (T := "list") hB (by rfl) (by rfl) hB.list (by decide +kernel) (ed_var (x := G) 1 rfl d2) (fun _ _ => tyx_list) (by decide +kernel)))) fun _ =>
    ew_or (k := false) (m := false) (et_is (et_cmp (ec_eq (α := List Sm) (y := []) (by decide) (u64 hr) (ed_var (x := G) 1 rfl d2) (ed_lst ea_nil rfl (by decide)))) (decide_eq_false hne)) fun _ =>
    ew_or1 (et_not (k := true) (et_is (et_val (ed_all rfl hB (by rfl) (ed_ofEL (el_of (el_lcL (j := 4) (xs := G) (f := fun _ => true) (gs := fun _ => true) rfl sc29.nd (blkOk_by (N := N29) (sc := defScope (top 29)) (by decide +kernel)) (ed_var 1 rfl d2) (by omega) ?_ ?_ (fun _ _ _ _ _ => pg_name (i := 4) sc29.nd rfl (Or.inl rfl))))))) ?_)))) fun H2 s2 => rb_nil ?_)
  · intro x v H1 s' H0 C cl fp hx sm dv
    exact ets_nil
  · intro x v H1 s' H0 C cl fp hx _ sm dv
    exact ee_of (ev_call C_are_places (hr.mono (by decide)) (by rfl) (ea_cons (ed_var 0 rfl (dp_same sm d1)) (ea_cons (ed_var 4 rfl dv) ea_nil)) ⟨W, x, rfl, hG x hx, rfl⟩)
  · simp
  replace d1 := dp_same s2 d1
  replace d2 := dp_same s2 d2
  refine rb_cons (rs_forZ (j1 := 2) (j2 := 3) (xs := G) (ys := G.drop 1) PassesOwn.never rfl hB (by rfl) (ed_var 1 rfl d2) (ed_is (ed_slL (ed_var (x := G) 1 rfl d2) (eo_some ed_int) eo_none) (cut1 G)) (pg_tup rfl (pgs_cons (pg_name (i := 2) sc29.nd rfl (Or.inl rfl)) (pgs_cons (pg_name (i := 3) sc29.nd rfl (Or.inl rfl)) pgs_nil))) fun H3 s3 =>
    ⟨fun i σ' H' => Same H3 H' ∧ ∃ a b, σ' = [some v1, some v2, a, b, none], ⟨Same.refl _, none, none, rfl⟩, fun i σ' H' q => q.1, ?_, ?_⟩)
  · rintro i x y u v σ' H' H'' hx hy ⟨s4, a, b, rfl⟩ s5 du dv
    refine rb_one (rs_ifF (et_is (et_cmp (ec_geT (by decide) (u64 hr) (ed_var 2 rfl du) (ed_var 3 rfl dv))) ?_) fun H6 s6 => rb_nil ⟨(s4.trans s5).trans s6, _, _, rfl⟩)
    rw [List.getElem?_drop, Nat.add_comm] at hy
    have := pw_at' hpw hx hy
    rw [this]
    rfl
  · rintro σ' H' ⟨s4, a, b, rfl⟩
    replace s4 := s3.trans s4
    refine rb_one (rs_ret (ed_is (ed_all rfl hB (by rfl) (ed_ofEL (el_of (el_lcL (j := 4) (xs := G) (f := fun s => answersIn W s G) (gs := fun _ => true) rfl sc29.nd (blkOk_by (N := N29) (sc := defScope (top 29)) (by decide +kernel)) (ed_var 1 rfl (dp_same s4 d2)) (by omega) ?_ ?_ (fun _ _ _ _ _ => pg_name (i := 4) sc29.nd rfl (Or.inl rfl)))))) ?_) fun w H5 s5 d => ⟨((s1.trans s2).trans s4).trans s5, d⟩)
    · intro x v H1 s' H0 C cl fp hx sm dv
      exact ets_nil
    · intro x v H1 s' H0 C cl fp hx _ sm dv
      exact ee_of (ev_call C_answers_in (hr.mono (by decide)) (by rfl) (ea_cons (ed_var 0 rfl (dp_same sm (dp_same s4 d1))) (ea_cons (ed_var 4 rfl dv) (ea_cons (ed_var 1 rfl (dp_same sm (dp_same s4 d2))) ea_nil))) ⟨W, x, G, rfl, hW.2.1, (hG x hx).up hW.2.1, rfl⟩)
    · rw [filter_tt, List.all_map]
      rfl
end
end GF
set_option Elab.async false
set_option linter.all false
set_option maxRecDepth 100000
set_option maxHeartbeats 4000000
namespace GF
open PySem PySem.Spec PySem.W PyProof.Rows L2
section
variable {P : Program} {w : World} {K : PySem.W.Frag} {mg : Str → Option Value} {base : Heap} {f : Addr} {fd : FuncData}
abbrev DctV (P : Program) (w : World) (K : PySem.W.Frag) (D : List (Sm × Nat)) : V → Hp → Prop := fun v H => ∃ a, v = .ref a ∧ IsDct P w K H a D
theorem dctV_same {D : List (Sm × Nat)} (v : V) (H1 H2 : Hp) (s : Same H1 H2) (h : DctV P w K D v H1) : DctV P w K D v H2 := by
  obtain ⟨a, e, g⟩ := h
  exact ⟨a, e, dct_same s g⟩
theorem u64' {k : Nat} {A : Around} (h : Room k A) : A.units + 1 < cLine := by have := h.un; omega
theorem dlook_none_iff {D : List (Sm × Nat)} {s : Sm} : dlook D s = none ↔ ∀ q ∈ D, q.1 ≠ s := by
  unfold dlook
  rw [Option.map_eq_none_iff, List.find?_eq_none]
  exact ⟨fun h q hq e => h q hq (decide_eq_true e), fun h q hq e => h q hq (of_decide_eq_true e)⟩
theorem gone_lt {W : Wb} {left : List Sm} (h : goneOf W left ≠ []) : (left.filter fun s => decide (s ∉ goneOf W left)).length < left.length := by
  refine Nat.lt_of_le_of_ne (List.length_filter_le _ _) fun e => ?_
  obtain ⟨s, r, hs⟩ := List.exists_cons_of_ne_nil h
  have hm : s ∈ goneOf W left := by rw [hs]; exact List.mem_cons_self
  have hl : s ∈ left := (List.mem_filter.mp hm).1
  have := List.length_filter_eq_length_iff.mp e s hl
  exact of_decide_eq_true this hm
theorem mem_numbered {l : List Sm} {d : Nat} {q : Sm × Nat} (h : q ∈ l.map fun s => (s, d)) : q.1 ∈ l := by
  obtain ⟨s, hs, rfl⟩ := List.mem_map.mp h
  exact hs
theorem nodup_at {l : List Sm} (h : l.Nodup) {i : Nat} {s : Sm} (hs : l[i]? = some s) : s ∉ l.take i := by
  intro hm
  obtain ⟨j, hj⟩ := List.mem_iff_getElem?.mp hm
  have hji : j < i := by
    have := (List.getElem?_eq_some_iff.mp hj).1
    rw [List.length_take] at this
    omega
  rw [List.getElem?_take_of_lt hji] at hj
  obtain ⟨h1, e1⟩ := List.getElem?_eq_some_iff.mp hs
  obtain ⟨h2, e2⟩ := List.getElem?_eq_some_iff.mp hj
  exact (List.pairwise_iff_getElem.mp h j i h2 h1 hji) (e2.trans e1.symm)
theorem pw_sm {n k : Nat} : (kSome n k).Nodup := by
  unfold kSome
  refine List.Pairwise.filter _ ?_
  unfold allSome
  refine (List.mergeSort_perm _ _).nodup_iff.mpr ?_
  induction n with
  | zero => simp [found]
  | succ n ih =>
    rw [found, List.nodup_append]
    refine ⟨ih, ?_, fun a ha b hb e => ?_⟩
    · have inj : ∀ a b : Sm, (⟨a.items ++ [n]⟩ : Sm) = ⟨b.items ++ [n]⟩ → a = b := fun a b e => by
        obtain ⟨a⟩ := a
        obtain ⟨b⟩ := b
        injection e with e
        exact congrArg Tup.mk (List.append_cancel_right e)
      exact List.Pairwise.map _ (fun a b hne e => hne (inj a b e)) ih
    · obtain ⟨t, ht, rfl⟩ := List.mem_map.mp hb
      have := (found_mem n a).mp ha
      subst e
      exact absurd (this.2 n (by simp)) (Nat.lt_irrefl _)
def p_by_days (P : Program) (w : World) (K : PySem.W.Frag) : List PyData → (V → Hp → Prop) → Prop := fun ds R => ∃ (W : Wb) (k : Nat), ds = [Datum.toD W, Datum.toD k] ∧ VW W ∧ R = Pr K (DctV P w K (byDays W k).1) (Gv K (byDays W k).2)
abbrev N30 : List Str := [("web" : Str), ("number" : Str), ("left" : Str), ("days_of" : Str), ("gone" : Str), ("day" : Str), ("some" : Str)]
theorem sc30 : FnScope [("web" : Str), ("number" : Str), ("left" : Str), ("days_of" : Str), ("gone" : Str), ("day" : Str), ("some" : Str)] [("web" : Str), ("number" : Str)] (defScope (top 30)) := ⟨rfl, rfl, rfl, by decide +kernel, rfl, by decide +kernel, by decide +kernel⟩
theorem ok_by_days (F : FD K "by_days" 30 f fd) (hm : mg "by_days" = some (.ref f)) (hB : Bls mg) (C_all_some : Cal P w K mg base "all_some" 1 (SpD K (p_all_some K))) (C_answers_in : Cal P w K mg base "answers_in" 3 (SpD K (p_answers_in K))) : Cal P w K mg base "by_days" 4 (SpD K (p_by_days P w K)) := by
  refine cal_of F sc30 hm (fun _ _ _ _ _ _ us hl => match us, hl with | [_, _], _ => rfl) (fun ds R h => by obtain ⟨W, k, rfl, hW, rfl⟩ := h; rfl) (fun cdv A outer s H vs E ds R hr d0 h => ?_)
  obtain ⟨W, k, rfl, hW, rfl⟩ := h
  obtain ⟨v1, v2, rfl, d1, d2⟩ := two_of d0

  have h8 := hW.2.1
  have h256 : (allSome W.1).length ≤ 256 := allSome_256 h8
  have k256 : (kSome W.1 k).length ≤ 256 := kSome_256 h8
  refine rb_cons (rs_setL 2 sc30.nd (el_of (el_is (el_lcL (j := 6) (xs := allSome W.1) (f := fun s => s) (gs := fun s => decide (s.items.length = k)) rfl sc30.nd (blkOk_by (N := N30) (sc := defScope (top 30)) (by decide +kernel)) (ev_call C_all_some (hr.mono (by decide)) (by rfl) (ea_cons (ed_var 0 rfl d1) ea_nil) ⟨W, rfl, hW, rfl⟩) (by omega) ?_ ?_ (fun _ _ _ _ _ => pg_name (i := 6) sc30.nd rfl (Or.inl rfl))) (map_same _))) fun l xl H1 hl s1 hl1 hxl => ?_)
  · intro x v H1 s' H0 C cl fp hx sm dv
    exact ets_one (et_cmp (ec_eq (by decide) (u64 hr) (ed_lenT hB (by rfl) (ed_var 6 rfl dv)) (ed_var 1 rfl (dp_same sm d2))))
  · intro x v H1 s' H0 C cl fp hx _ sm dv
    exact ee_of (ed_var 6 rfl dv)
  have dl1 : DD K H1 (.ref l) (kSome W.1 k) := dd_ofL (SqL.of hl1) hxl
  refine rb_cons (rs_setD 3 sc30.nd (fun a H2 ha s2 g2 => ?_))
  have hVS : ∀ s ∈ kSome W.1 k, VS 8 s := fun s hs => (kSome_mem.mp hs).1.up h8
  refine rb_cons (rs_setL 4 sc30.nd (el_of (el_is (m := goneOf W (kSome W.1 k)) (el_lcL (j := 6) (xs := kSome W.1 k) (f := fun s => s) (gs := fun s => !answersIn W s (kSome W.1 k)) rfl sc30.nd (blkOk_by (N := N30) (sc := defScope (top 30)) (by decide +kernel)) (ed_var 2 rfl (dp_same s2 dl1)) (by omega) ?_ ?_ (fun _ _ _ _ _ => pg_name (i := 6) sc30.nd rfl (Or.inl rfl))) (map_same _))) fun g xg H3 hg s3 hg3 hxg => ?_)
  · intro x v H4 s' H0 C cl fp hx sm dv
    exact ets_one (et_not (et_val (ev_call C_answers_in hr (by rfl) (ea_cons (ed_var 0 rfl (dp_same ((s1.trans s2).trans sm) d1)) (ea_cons (ed_var 6 rfl dv) (ea_cons (ed_var 2 rfl (dp_same (s2.trans sm) dl1)) ea_nil))) ⟨W, x, _, rfl, h8, hVS x hx, rfl⟩)))
  · intro x v H1 s' H0 C cl fp hx _ sm dv
    exact ee_of (ed_var 6 rfl dv)
  refine rb_cons (rs_set 5 sc30.nd (ed_nat 0) fun vd H4 s4 dd => ?_)
  rw [dd_nat dd]
  refine rb_cons (rs_while PassesOwn.never (fun m σ' H' => Same H H' ∧ ∃ fuel day left acc l g c, m = left.length ∧ left.length < fuel ∧ daysLoop W fuel day left acc = byDays W k ∧ left.Nodup ∧ (∀ s ∈ left, VS 8 s) ∧ (∀ s ∈ left, dlook acc s = none) ∧ acc.length + left.length ≤ 256 ∧
    σ' = [some v1, some v2, some (.ref l), some (.ref a), some (.ref g), some (.int ((day : Nat) : Int)), c] ∧ IsDct P w K H' a acc ∧ DD K H' (.ref l) left ∧ DD K H' (.ref g) (goneOf W left)) (kSome W.1 k).length ?_ ?_)
  · refine ⟨((s1.trans s2).trans s3).trans s4, (kSome W.1 k).length + 1, 0, kSome W.1 k, [], l, g, none, rfl, Nat.lt_succ_self _, rfl, pw_sm, hVS, fun s _ => rfl, by simpa using k256, rfl, dct_same (s3.trans s4) g2, dp_same ((s2.trans s3).trans s4) dl1, dp_same s4 (dd_ofL (SqL.of hg3) hxg)⟩
  rintro m σ' H' ⟨sm, fuel, day, left, acc, l, g, c, rfl, hf, hday, hnd, hvs, hnone, hlen, rfl, gd, dl, dg⟩
  refine ⟨decide (goneOf W left ≠ []), et_cmp (ec_ne (α := List Sm) (y := []) (by decide) (u64 hr) (ed_var 4 rfl dg) (ed_lst ea_nil rfl (by decide))), fun hb H5 s5 => ?_, fun hb H5 s5 => ?_⟩
  · have hgne : goneOf W left ≠ [] := of_decide_eq_true hb
    obtain ⟨fuel, rfl⟩ : ∃ f, fuel = f + 1 := ⟨fuel - 1, by omega⟩
    have hst : daysLoop W fuel (day + 1) (left.filter fun s => decide (s ∉ goneOf W left)) (acc ++ (goneOf W left).map fun s => (s, day)) = byDays W k := by
      rw [← hday, daysLoop, if_neg hgne]
    have hgl : ∀ s ∈ goneOf W left, s ∈ left := fun s hs => (List.mem_filter.mp hs).1
    have hgn : (goneOf W left).Nodup := List.Pairwise.filter _ hnd
    have hglen : (goneOf W left).length + (left.filter fun s => decide (s ∉ goneOf W left)).length = left.length := by
      have e1 := List.length_eq_countP_add_countP (fun s => decide (s ∉ goneOf W left)) (l := left)
      rw [List.countP_eq_length_filter, List.countP_eq_length_filter] at e1
      have e2 : (left.filter fun a => decide ¬decide (a ∉ goneOf W left) = true) = goneOf W left := by
        unfold goneOf
        refine List.filter_congr fun x hx => ?_
        by_cases hxg : (!answersIn W x left) = true
        · rw [hxg]
          simp only [List.mem_filter, hx, hxg, and_self, not_true_eq_false, decide_false, Bool.false_eq_true, not_false_eq_true, decide_true]
        · have : (!answersIn W x left) = false := by simpa using hxg
          rw [this]
          simp only [List.mem_filter, hx, this, Bool.false_eq_true, and_false, not_false_eq_true, decide_true, not_true_eq_false, decide_false]
      rw [e2] at e1
      omega
    obtain ⟨q1, q2, xs0, ha5, q4⟩ := dct_same s5 gd
    have gd5 : IsDct P w K H5 a acc := ⟨q1, q2, xs0, ha5, q4⟩
    have dg5 := dp_hid ha5 (dp_same s5 dg)
    have dl5 := dp_hid ha5 (dp_same s5 dl)
    refine rb_cons (rs_forL (j := 6) (xs := goneOf W left) PassesOwn.never rfl (ev_var (R := fun v _ => v = .ref g) 4 rfl fun _ _ => rfl) (pg_name (i := 6) sc30.nd rfl (Or.inl rfl)) fun v H6 s6 hv => ⟨hid H5 a, fun i σ'' H'' => Same H H'' ∧ Same (hid H5 a) (hid H'' a) ∧ (∃ c, σ'' = [some v1, some v2, some (.ref l), some (.ref a), some (.ref g), some (.int ((day : Nat) : Int)), c]) ∧
      IsDct P w K H'' a (acc ++ ((goneOf W left).take i).map fun s => (s, day)), by rw [hv]; exact dg5, ⟨(sm.trans s5).trans s6, hid_mono s6, ⟨_, rfl⟩, by simpa using dct_same s6 gd5⟩, fun i σ'' H'' q => q.2.1.trans hid_same, ?_, ?_⟩)
    · rintro i s u σ'' H'' hs ⟨t1, t2, ⟨c, rfl⟩, t3⟩ du
      have hmem := List.mem_of_getElem? hs
      have htl : ((goneOf W left).take i).length < (goneOf W left).length := by
        have := (List.getElem?_eq_some_iff.mp hs).1
        rw [List.length_take]
        omega
      refine rb_one (rs_put (a := a) (t := s) (n := day) (u64' hr) (ev_var (R := fun v _ => v = .ref a) 3 rfl fun _ _ => rfl) t3 (ed_var 6 rfl du) (ed_var 5 rfl (.int _)) ?_ ?_ fun H7 o s7 g7 => ⟨?_, ?_, ⟨_, rfl⟩, ?_⟩)
      · rw [List.length_append, List.length_map]
        omega
      · rw [dlook_none_iff]
        intro q hq
        rcases List.mem_append.mp hq with hq | hq
        · exact dlook_none_iff.mp (hnone s (hgl s hmem)) q hq
        · intro e
          have := mem_numbered hq
          rw [e] at this
          exact nodup_at hgn hs this
      · exact same_mut (t1.trans s7) (by
          cases e : H a with
          | none => rfl
          | some o =>
            have := s1 a o e
            rw [ha] at this
            cases this)
      · rw [hid_upd]
        exact t2.trans (hid_mono s7)
      · rw [take_succ_at hs, List.map_append, ← List.append_assoc]
        exact g7
    · rintro σ'' H'' ⟨t1, t2, ⟨c, rfl⟩, t3⟩
      rw [List.take_length] at t3
      have dl6 : DD K H'' (.ref l) left := dp_same (t2.trans hid_same) dl5
      have dg6 : DD K H'' (.ref g) (goneOf W left) := dp_same (t2.trans hid_same) dg5
      have hleft : left.length ≤ 256 := by omega
      refine rb_cons (rs_setL 2 sc30.nd (el_of (el_is (m := left.filter fun s => decide (s ∉ goneOf W left)) (el_lcL (j := 6) (xs := left) (f := fun s => s) (gs := fun s => decide (s ∉ goneOf W left)) rfl sc30.nd (blkOk_by (N := N30) (sc := defScope (top 30)) (by decide +kernel)) (ed_var 2 rfl dl6) (by omega) ?_ ?_ (fun _ _ _ _ _ => pg_name (i := 6) sc30.nd rfl (Or.inl rfl))) (map_same _))) fun l2 xl2 H7 hl2 s7 hl7 hxl2 => ?_)
      · intro x v H1 s' H0 C cl fp hx sm dv
        exact ets_one (et_cmp (ec_ninL (by decide) (u64 hr) (ed_var 6 rfl dv) (ed_var 4 rfl (dp_same sm dg6))))
      · intro x v H1 s' H0 C cl fp hx _ sm dv
        exact ee_of (ed_var 6 rfl dv)
      have dl7 : DD K H7 (.ref l2) (left.filter fun s => decide (s ∉ goneOf W left)) := dd_ofL (SqL.of hl7) hxl2
      have hle2 := List.length_filter_le (fun s => decide (s ∉ goneOf W left)) left
      have hvs2 : ∀ s ∈ left.filter fun s => decide (s ∉ goneOf W left), VS 8 s := fun s hs => hvs s (List.mem_filter.mp hs).1
      refine rb_cons (rs_setL 4 sc30.nd (el_of (el_is (m := goneOf W (left.filter fun s => decide (s ∉ goneOf W left))) (el_lcL (j := 6) (xs := left.filter fun s => decide (s ∉ goneOf W left)) (f := fun s => s) (gs := fun s => !answersIn W s (left.filter fun s => decide (s ∉ goneOf W left))) rfl sc30.nd (blkOk_by (N := N30) (sc := defScope (top 30)) (by decide +kernel)) (ed_var 2 rfl dl7) (by omega) ?_ ?_ (fun _ _ _ _ _ => pg_name (i := 6) sc30.nd rfl (Or.inl rfl))) (map_same _))) fun g2 xg2 H8 hg2 s8 hg8 hxg2 => ?_)
      · intro x v H4 s' H0 C cl fp hx sm dv
        exact ets_one (et_not (et_val (ev_call C_answers_in hr (by rfl) (ea_cons (ed_var 0 rfl (dp_same ((t1.trans s7).trans sm) d1)) (ea_cons (ed_var 6 rfl dv) (ea_cons (ed_var 2 rfl (dp_same sm dl7)) ea_nil))) ⟨W, x, _, rfl, h8, hvs2 x hx, rfl⟩)))
      · intro x v H1 s' H0 C cl fp hx _ sm dv
        exact ee_of (ed_var 6 rfl dv)
      refine rb_one (rs_aug 5 (i := (day : Int)) (k := 1) sc30.nd rfl ed_int fun H9 s9 => ⟨_, gone_lt hgne, ((t1.trans s7).trans s8).trans s9, fuel, day + 1, _, _, l2, g2, _, rfl, ?_, hst, List.Pairwise.filter _ hnd, hvs2, fun s hs => ?_, ?_, rfl, dct_same ((s7.trans s8).trans s9) t3, dp_same (s8.trans s9) dl7, dp_same s9 (dd_ofL (SqL.of hg8) hxg2)⟩)
      · have := gone_lt hgne
        omega
      · rw [dlook_none_iff]
        intro q hq
        rcases List.mem_append.mp hq with hq | hq
        · exact dlook_none_iff.mp (hnone s (List.mem_filter.mp hs).1) q hq
        · intro e
          have := mem_numbered hq
          rw [e] at this
          exact of_decide_eq_true (List.mem_filter.mp hs).2 this
      · rw [List.length_append, List.length_map]
        omega
  · have hge : goneOf W left = [] := Decidable.not_not.mp (of_decide_eq_false hb)
    obtain ⟨fuel, rfl⟩ : ∃ f, fuel = f + 1 := ⟨fuel - 1, by omega⟩
    have hst : byDays W k = (acc, left) := by rw [← hday, daysLoop, if_pos hge]
    rw [hst]
    exact rb_one (rs_ret (ev_pair (R1 := DctV P w K acc) (R2 := Gv K left) (ev_var 3 rfl fun H6 s6 => ⟨a, rfl, dct_same (s5.trans s6) gd⟩) (ed_var 2 rfl (dp_same s5 dl)) dctV_same (fun _ _ _ s d => dp_same s d)) fun v H6 s6 d => ⟨(sm.trans s5).trans s6, d⟩)
end
end GF
set_option Elab.async false
set_option linter.all false
set_option maxRecDepth 100000
set_option maxHeartbeats 4000000
namespace GF
open PySem PySem.Spec PySem.W PyProof.Rows L2
section
variable {P : Program} {w : World} {K : PySem.W.Frag} {mg : Str → Option Value} {base : Heap} {f : Addr} {fd : FuncData}
theorem byDays_eq (W : Wb) (k : Nat) : (byDays W k).2 = fam W k := rfl
theorem firstFam_of {W : Wb} {j : Nat} (h : fam W j ≠ []) (hj : j ≤ W.1) (hn : ∀ i < j, fam W i = []) : firstFam W = fam W j := by
  have e : (List.range (W.1 + 1)).find? (fun k => decide (fam W k ≠ [])) = some j := by
    have e2 : List.range (W.1 + 1) = List.range j ++ (j :: (List.range (W.1 - j)).map fun i => j + 1 + i) := by
      apply List.ext_getElem?
      intro i
      by_cases hi : i < W.1 + 1
      · rw [List.getElem?_range hi]
        by_cases h1 : i < j
        · rw [List.getElem?_append_left (by simpa using h1), List.getElem?_range h1]
        · rw [List.getElem?_append_right (by simp; omega), List.length_range]
          by_cases h2 : i = j
          · subst h2
            simp
          · obtain ⟨d, rfl⟩ : ∃ d, i = j + 1 + d := ⟨i - j - 1, by omega⟩
            have : j + 1 + d - j = d + 1 := by omega
            rw [this, List.getElem?_cons_succ, List.getElem?_map, List.getElem?_range (by omega)]
            rfl
      · rw [List.getElem?_eq_none (by simp; omega), List.getElem?_eq_none (by simp; omega)]
    rw [e2, List.find?_append, List.find?_eq_none.mpr fun i hi => by
      have := hn i (List.mem_range.mp hi)
      simp [this]]
    rw [List.find?_cons, decide_eq_true h]
    rfl
  unfold firstFam
  rw [e]
def p_family_of (K : PySem.W.Frag) : List PyData → (V → Hp → Prop) → Prop := fun ds R => ∃ (W : Wb) (k : Nat), ds = [Datum.toD W, Datum.toD k] ∧ VW W ∧ k ≤ W.1 ∧ R = Gv K (fam W k)
abbrev N31 : List Str := [("web" : Str), ("number" : Str)]
theorem sc31 : FnScope [("web" : Str), ("number" : Str)] [("web" : Str), ("number" : Str)] (defScope (top 31)) := ⟨rfl, rfl, rfl, by decide +kernel, rfl, by decide +kernel, by decide +kernel⟩
theorem ok_family_of (F : FD K "family_of" 31 f fd) (hm : mg "family_of" = some (.ref f)) (hB : Bls mg) (C_must_web : Cal P w K mg base "must_web" 5 (SpD K (p_must_web K))) (C_must_number : Cal P w K mg base "must_number" 3 (SpD K (p_must_number K))) (C_by_days : Cal P w K mg base "by_days" 4 (SpD K (p_by_days P w K))) : Cal P w K mg base "family_of" 6 (SpD K (p_family_of K)) := by
  refine cal_of F sc31 hm (fun _ _ _ _ _ _ us hl => match us, hl with | [_, _], _ => rfl) (fun ds R h => by obtain ⟨W, k, rfl, hW, hk, rfl⟩ := h; rfl) (fun cdv A outer s H vs E ds R hr d0 h => ?_)
  obtain ⟨W, k, rfl, hW, hk, rfl⟩ := h
  obtain ⟨v1, v2, rfl, d1, d2⟩ := two_of d0

  refine rb_cons (rs_expr (ev_call C_must_web hr (by rfl) (ea_cons (ed_var 0 rfl d1) ea_nil) ⟨W, rfl, hW, rfl⟩) fun _ H1 s1 _ => ?_)
  refine rb_cons (rs_expr (ev_call C_must_number (hr.mono (by decide)) (by rfl) (ea_cons (ed_var 1 rfl (dp_same s1 d2)) (ea_cons ed_int (ea_cons (ed_fst (x := W) (ed_var 0 rfl (dp_same s1 d1))) ea_nil))) ⟨(k : Int), 0, (W.1 : Int), rfl, by omega, by omega, rfl⟩) fun _ H2 s2 _ => ?_)
  replace s2 := s1.trans s2
  exact rb_one (rs_ret (ev_ix1 (R1 := DctV P w K (byDays W k).1) (ev_call C_by_days (hr.mono (by decide)) (by rfl) (ea_cons (ed_var 0 rfl (dp_same s2 d1)) (ea_cons (ed_var 1 rfl (dp_same s2 d2)) ea_nil)) ⟨W, k, rfl, hW, rfl⟩)) fun v H3 s3 d => ⟨s2.trans s3, d⟩)
def p_first_family (K : PySem.W.Frag) : List PyData → (V → Hp → Prop) → Prop := fun ds R => ∃ (W : Wb), ds = [Datum.toD W] ∧ VW W ∧ R = Gv K (firstFam W)
abbrev N32 : List Str := [("web" : Str), ("found" : Str), ("number" : Str)]
theorem sc32 : FnScope [("web" : Str), ("found" : Str), ("number" : Str)] [("web" : Str)] (defScope (top 32)) := ⟨rfl, rfl, rfl, by decide +kernel, rfl, by decide +kernel, by decide +kernel⟩
theorem ok_first_family (F : FD K "first_family" 32 f fd) (hm : mg "first_family" = some (.ref f)) (hB : Bls mg) (C_by_days : Cal P w K mg base "by_days" 4 (SpD K (p_by_days P w K))) (hfam : ∀ W, VW W → fam W W.1 ≠ []) : Cal P w K mg base "first_family" 5 (SpD K (p_first_family K)) := by
  refine cal_of F sc32 hm (fun _ _ _ _ _ _ us hl => match us, hl with | [_], _ => rfl) (fun ds R h => by obtain ⟨W, rfl, hW, rfl⟩ := h; rfl) (fun cdv A outer s H vs E ds R hr d0 h => ?_)
  obtain ⟨W, rfl, hW, rfl⟩ := h
  obtain ⟨v1, rfl, d1⟩ := one_of d0

  refine rb_cons (rs_set 1 sc32.nd (ed_lst (xs := ([] : List Sm)) ea_nil rfl (by decide)) fun vf H1 s1 df => ?_)
  refine rb_cons (rs_set 2 sc32.nd (ed_nat 0) fun vn H2 s2 dn => ?_)
  rw [dd_nat dn]
  refine rb_cons (rs_while PassesOwn.never (fun m σ' H' => Same H H' ∧ ∃ vf i G, m = W.1 + 1 - i ∧ i ≤ W.1 + 1 ∧ σ' = [some v1, some vf, some (.int ((i : Nat) : Int))] ∧ DD K H' vf G ∧ ((i = 0 ∧ G = []) ∨ ∃ j, i = j + 1 ∧ G = fam W j) ∧ ∀ j, j + 1 < i → fam W j = []) (W.1 + 1) ?_ ?_)
  · exact ⟨s1.trans s2, vf, 0, [], rfl, Nat.zero_le _, rfl, dp_same s2 df, .inl ⟨rfl, rfl⟩, fun j hj => by omega⟩
  · rintro m σ' H' ⟨s3, vf, i, G, rfl, hi, rfl, dG, hG, hall⟩
    refine ⟨decide (G = []), et_cmp (ec_eq (α := List Sm) (y := []) (by decide) (u64 hr) (ed_var 1 rfl dG) (ed_lst ea_nil rfl (by decide))), fun hb H5 s5 => ?_, fun hb H5 s5 => ?_⟩
    · have hG0 : G = [] := of_decide_eq_true hb
      have hi2 : i < W.1 + 1 := by
        rcases hG with ⟨rfl, _⟩ | ⟨j, rfl, e⟩
        · omega
        · rcases Nat.lt_or_ge j W.1 with h | h
          · omega
          · have : j = W.1 := by omega
            subst this
            exact absurd (e ▸ hG0) (hfam W hW)
      refine rb_cons (rs_set 1 sc32.nd (ev_ix1 (R1 := DctV P w K (byDays W i).1) (ev_call C_by_days hr (by rfl) (ea_cons (ed_var 0 rfl (dp_same (s3.trans s5) d1)) (ea_cons (ed_var (x := i) 2 rfl (.int _)) ea_nil)) ⟨W, i, rfl, hW, rfl⟩)) fun vg H6 s6 dg => ?_)
      refine rb_one (rs_aug 2 (i := (i : Int)) (k := 1) sc32.nd rfl ed_int fun H7 s7 => ⟨W.1 + 1 - (i + 1), by omega, ((s3.trans s5).trans s6).trans s7, vg, i + 1, _, rfl, by omega, rfl, dp_same s7 dg, .inr ⟨i, rfl, rfl⟩, fun j hj => ?_⟩)
      rcases hG with ⟨rfl, _⟩ | ⟨j', rfl, e⟩
      · omega
      · rcases Nat.lt_or_ge (j + 1) (j' + 1) with h | h
        · exact hall j h
        · have : j = j' := by omega
          subst this
          rw [← e, hG0]
    · have hG0 : G ≠ [] := of_decide_eq_false hb
      rcases hG with ⟨_, e⟩ | ⟨j, rfl, e⟩
      · exact absurd e hG0
      · have : firstFam W = G := by
          rw [e]
          exact firstFam_of (e ▸ hG0) (by omega) fun i hi => hall i (by omega)
        rw [this]
        exact rb_one (rs_ret (ed_var 1 rfl (dp_same s5 dG)) fun v H6 s6 d => ⟨(s3.trans s5).trans s6, d⟩)
def p_fewest_guards (K : PySem.W.Frag) : List PyData → (V → Hp → Prop) → Prop := fun ds R => ∃ (W : Wb), ds = [Datum.toD W] ∧ VW W ∧ R = Gv K (fewestGuards W)
abbrev N33 : List Str := [("web" : Str)]
theorem sc33 : FnScope [("web" : Str)] [("web" : Str)] (defScope (top 33)) := ⟨rfl, rfl, rfl, by decide +kernel, rfl, by decide +kernel, by decide +kernel⟩
theorem ok_fewest_guards (F : FD K "fewest_guards" 33 f fd) (hm : mg "fewest_guards" = some (.ref f)) (hB : Bls mg) (C_must_web : Cal P w K mg base "must_web" 5 (SpD K (p_must_web K))) (C_first_family : Cal P w K mg base "first_family" 5 (SpD K (p_first_family K))) (hff : ∀ W, VW W → firstFam W ≠ []) : Cal P w K mg base "fewest_guards" 6 (SpD K (p_fewest_guards K)) := by
  refine cal_of F sc33 hm (fun _ _ _ _ _ _ us hl => match us, hl with | [_], _ => rfl) (fun ds R h => by obtain ⟨W, rfl, hW, rfl⟩ := h; rfl) (fun cdv A outer s H vs E ds R hr d0 h => ?_)
  obtain ⟨W, rfl, hW, rfl⟩ := h
  obtain ⟨v1, rfl, d1⟩ := one_of d0

  obtain ⟨x, r, hx⟩ := List.exists_cons_of_ne_nil (hff W hW)
  have hx0 : (firstFam W)[0]? = some (firstGuards W) := by
    rw [firstGuards, hx]
    rfl
  refine rb_cons (rs_expr (ev_call C_must_web (hr.mono (by decide)) (by rfl) (ea_cons (ed_var 0 rfl d1) ea_nil) ⟨W, rfl, hW, rfl⟩) fun _ H1 s1 _ => ?_)

  exact rb_one (rs_ret (ed_lenT hB (by rfl) (ed_ixL (l := firstFam W) (i := 0) (ev_call C_first_family hr (by rfl) (ea_cons (ed_var 0 rfl (dp_same s1 d1)) ea_nil) ⟨W, rfl, hW, rfl⟩) (ed_nat 0) hx0)) fun v H2 s2 d => ⟨s1.trans s2, d⟩)
def p_first_guards (K : PySem.W.Frag) : List PyData → (V → Hp → Prop) → Prop := fun ds R => ∃ (W : Wb), ds = [Datum.toD W] ∧ VW W ∧ R = Gv K (firstGuards W)
abbrev N34 : List Str := [("web" : Str)]
theorem sc34 : FnScope [("web" : Str)] [("web" : Str)] (defScope (top 34)) := ⟨rfl, rfl, rfl, by decide +kernel, rfl, by decide +kernel, by decide +kernel⟩
theorem ok_first_guards (F : FD K "first_guards" 34 f fd) (hm : mg "first_guards" = some (.ref f)) (hB : Bls mg) (C_must_web : Cal P w K mg base "must_web" 5 (SpD K (p_must_web K))) (C_first_family : Cal P w K mg base "first_family" 5 (SpD K (p_first_family K))) (hff : ∀ W, VW W → firstFam W ≠ []) : Cal P w K mg base "first_guards" 6 (SpD K (p_first_guards K)) := by
  refine cal_of F sc34 hm (fun _ _ _ _ _ _ us hl => match us, hl with | [_], _ => rfl) (fun ds R h => by obtain ⟨W, rfl, hW, rfl⟩ := h; rfl) (fun cdv A outer s H vs E ds R hr d0 h => ?_)
  obtain ⟨W, rfl, hW, rfl⟩ := h
  obtain ⟨v1, rfl, d1⟩ := one_of d0

  obtain ⟨x, r, hx⟩ := List.exists_cons_of_ne_nil (hff W hW)
  have hx0 : (firstFam W)[0]? = some (firstGuards W) := by
    rw [firstGuards, hx]
    rfl
  refine rb_cons (rs_expr (ev_call C_must_web (hr.mono (by decide)) (by rfl) (ea_cons (ed_var 0 rfl d1) ea_nil) ⟨W, rfl, hW, rfl⟩) fun _ H1 s1 _ => ?_)

  exact rb_one (rs_ret (ed_ixL (l := firstFam W) (i := 0) (ev_call C_first_family hr (by rfl) (ea_cons (ed_var 0 rfl (dp_same s1 d1)) ea_nil) ⟨W, rfl, hW, rfl⟩) (ed_nat 0) hx0) fun v H2 s2 d => ⟨s1.trans s2, d⟩)
theorem od_getD {o : Option Nat} {H : Hp} : Od K o ((o.map fun n : Nat => V.int (n : Int)).getD .non) H := by
  cases o with
  | none => rfl
  | some n => exact .int _
def p_days (K : PySem.W.Frag) : List PyData → (V → Hp → Prop) → Prop := fun ds R => ∃ (W : Wb) (s : Sm), ds = [Datum.toD W, Datum.toD s] ∧ VW W ∧ VS W.1 s ∧ R = Od K (daysM W s)
abbrev N35 : List Str := [("web" : Str), ("some" : Str)]
theorem sc35 : FnScope [("web" : Str), ("some" : Str)] [("web" : Str), ("some" : Str)] (defScope (top 35)) := ⟨rfl, rfl, rfl, by decide +kernel, rfl, by decide +kernel, by decide +kernel⟩
theorem ok_days (F : FD K "days" 35 f fd) (hm : mg "days" = some (.ref f)) (hB : Bls mg) (C_must_web : Cal P w K mg base "must_web" 5 (SpD K (p_must_web K))) (C_must_places : Cal P w K mg base "must_places" 5 (SpD K (p_must_places K))) (C_by_days : Cal P w K mg base "by_days" 4 (SpD K (p_by_days P w K))) : Cal P w K mg base "days" 6 (SpD K (p_days K)) := by
  refine cal_of F sc35 hm (fun _ _ _ _ _ _ us hl => match us, hl with | [_, _], _ => rfl) (fun ds R h => by obtain ⟨W, z, rfl, hW, hz, rfl⟩ := h; rfl) (fun cdv A outer s H vs E ds R hr d0 h => ?_)
  obtain ⟨W, z, rfl, hW, hz, rfl⟩ := h
  obtain ⟨v1, v2, rfl, d1, d2⟩ := two_of d0

  refine rb_cons (rs_expr (ev_call C_must_web (hr.mono (by decide)) (by rfl) (ea_cons (ed_var 0 rfl d1) ea_nil) ⟨W, rfl, hW, rfl⟩) fun _ H1 s1 _ => ?_)
  refine rb_cons (rs_expr (ev_call C_must_places (hr.mono (by decide)) (by rfl) (ea_cons (ed_var 0 rfl (dp_same s1 d1)) (ea_cons (ed_var 1 rfl (dp_same s1 d2)) ea_nil)) ⟨W, z, rfl, hz, rfl⟩) fun _ H2 s2 _ => ?_)
  replace s2 := s1.trans s2

  exact rb_one (rs_ret (ev_get1 (t := z) (u64' hr) (ev_ix0 (R2 := Gv K (byDays W z.items.length).2) (ev_call C_by_days (hr.mono (by decide)) (by rfl) (ea_cons (ed_var 0 rfl (dp_same s2 d1)) (ea_cons (ed_lenT hB (by rfl) (ed_var 1 rfl (dp_same s2 d2))) ea_nil)) ⟨W, z.items.length, rfl, hW, rfl⟩)) (ed_var 1 rfl (dp_same s2 d2)) ⟨rfl, rfl, rfl, rfl⟩) fun v H3 s3 d => ⟨s2.trans s3, by
    rw [d]
    exact od_getD⟩)
def p_left_by (P : Program) (w : World) (K : PySem.W.Frag) : List V → Hp → (V → Hp → Prop) → Prop := fun vs H R => ∃ (W : Wb) (s : Sm) (p : Nat) (D : List (Sm × Nat)) (v1 v2 v3 : V) (a : Addr), vs = [v1, v2, v3, .ref a] ∧ DD K H v1 W ∧ DD K H v2 s ∧ DD K H v3 p ∧ IsDct P w K H a D ∧ VS 8 s ∧ R = Gv K (leftBy D W s p)
abbrev N36 : List Str := [("web" : Str), ("some" : Str), ("place" : Str), ("days_of" : Str), ("beyond" : Str), ("one" : Str)]
theorem sc36 : FnScope [("web" : Str), ("some" : Str), ("place" : Str), ("days_of" : Str), ("beyond" : Str), ("one" : Str)] [("web" : Str), ("some" : Str), ("place" : Str), ("days_of" : Str)] (defScope (top 36)) := ⟨rfl, rfl, rfl, by decide +kernel, rfl, by decide +kernel, by decide +kernel⟩
theorem ok_left_by (F : FD K "left_by" 36 f fd) (hm : mg "left_by" = some (.ref f)) (hB : Bls mg) (C_moves_of : Cal P w K mg base "moves_of" 2 (SpD K (p_moves_of K))) (hN : ∃ t, mg "NO_MOVE" = some (.int (-1) t)) : Cal P w K mg base "left_by" 3 (SpV (p_left_by P w K)) := by
  refine cal_ofV F sc36 hm (fun _ _ _ _ _ _ us hl => match us, hl with | [_, _, _, _], _ => rfl) (fun vs H R h => by obtain ⟨W, z, p, D, v1, v2, v3, a, rfl, d1, d2, d3, gd, hz, rfl⟩ := h; rfl) (fun cdv A outer s H vs E R hr h => ?_)
  obtain ⟨W, z, p, D, v1, v2, v3, a, rfl, d1, d2, d3, gd, hz, rfl⟩ := h

  have hml : (movesOf W z p).length ≤ 8 := by
    have := hz.len
    rw [movesOf_eq, List.length_mergeSort, List.length_map]
    exact Nat.le_trans (List.length_filter_le _ _) this
  refine rb_cons (rs_set 4 sc36.nd (ed_addN (i := D.length) (j := 1) (ed_lenD hB (by rfl) (ev_var 3 rfl fun H1 s1 => ⟨a, rfl, dct_same s1 gd⟩)) (ed_nat 1)) fun vb H1 s1 db => ?_)
  refine rb_one (rs_ret (ed_is (ed_maxD (l := (movesOf W z p).map (dget D)) (d := -1) rfl (u64 hr) hB (by rfl) (ed_is (ed_ofEL (el_of (el_lcL (β := Int) (j := 5) (xs := movesOf W z p) (f := dget D) (gs := fun _ => true) rfl sc36.nd (blkOk_by (N := N36) (sc := defScope (top 36)) (by decide +kernel)) (ev_call C_moves_of hr (by rfl) (ea_cons (ed_var 0 rfl (dp_same s1 d1)) (ea_cons (ed_var 1 rfl (dp_same s1 d2)) (ea_cons (ed_var 2 rfl (dp_same s1 d3)) ea_nil))) ⟨W, z, p, rfl, hz, rfl⟩) (by omega) ?_ ?_ (fun _ _ _ _ _ => pg_name (i := 5) sc36.nd rfl (Or.inl rfl))))) (by rw [filter_tt])) (ed_globI (by rfl) hN)) rfl) fun v H2 s2 d => ⟨s1.trans s2, d⟩)
  · intro x v H1 s' H0 C cl fp hx sm dv
    exact ets_nil
  · intro x v H1 s' H0 C cl fp hx _ sm dv
    exact ee_of (β := Int) (ev_get2 (t := x) (n := D.length + 1) (u64' hr) (ev_var 3 rfl fun H2 s2 => ⟨a, rfl, dct_same ((s1.trans sm).trans s2) gd⟩) (ed_var 5 rfl dv) (ed_var 4 rfl (dp_same sm db)) ⟨rfl, rfl, rfl, rfl⟩)
theorem ear_left {X : Cx} {σ : L2.St} {H : Hp} {e1 e2 e3 e4 : Expr} {W : Wb} {s : Sm} {p : Nat} {D : List (Sm × Nat)} (h1 : ED X e1 σ H W) (h2 : ED X e2 σ H s) (h3 : ED X e3 σ H p) (h4 : EV X e4 σ H (DctV X.prog X.w X.K D))
    (q1 : starEach [e1, e2, e3, e4] X.env = (false, eval e1 X.env) :: starEach [e2, e3, e4] X.env := by rfl) (q2 : starEach [e2, e3, e4] X.env = (false, eval e2 X.env) :: starEach [e3, e4] X.env := by rfl) (q3 : starEach [e3, e4] X.env = (false, eval e3 X.env) :: starEach [e4] X.env := by rfl) (q4 : starEach [e4] X.env = (false, eval e4 X.env) :: starEach [] X.env := by rfl) :
    EAR X [e1, e2, e3, e4] σ H fun vs H1 => ∃ v1 v2 v3 a, vs = [v1, v2, v3, .ref a] ∧ DD X.K H1 v1 W ∧ DD X.K H1 v2 s ∧ DD X.K H1 v3 p ∧ IsDct X.prog X.w X.K H1 a D := fun H1 h Q q =>
  (ear_cons h1 (ear_cons h2 (ear_cons h3 (ear_cons h4 ear_nil dctV_same q4) (fun _ _ _ s d => dp_same s d) q3) (fun _ _ _ s d => dp_same s d) q2) (fun _ _ _ s d => dp_same s d) q1) H1 h Q fun vs H2 s2 r => by
    obtain ⟨v1, _, rfl, r1, v2, _, rfl, r2, v3, _, rfl, r3, v4, _, rfl, ⟨a, rfl, r4⟩, rfl⟩ := r
    exact q _ H2 s2 ⟨v1, v2, v3, a, rfl, r1, r2, r3, r4⟩
theorem ev_leftBy {X : Cx} {σ : L2.St} {H : Hp} {e1 e2 e3 e4 : Expr} {pos p' : Pos} {W : Wb} {s : Sm} {p : Nat} {D : List (Sm × Nat)} (C : Cal X.prog X.w X.K X.mg X.base "left_by" 3 (SpV (p_left_by X.prog X.w X.K))) (hr : Room 3 X.A) (hg : Gl X "left_by") (hz : VS 8 s) (h1 : ED X e1 σ H W) (h2 : ED X e2 σ H s) (h3 : ED X e3 σ H p) (h4 : EV X e4 σ H (DctV X.prog X.w X.K D))
    (q1 : starEach [e1, e2, e3, e4] X.env = (false, eval e1 X.env) :: starEach [e2, e3, e4] X.env := by rfl) (q2 : starEach [e2, e3, e4] X.env = (false, eval e2 X.env) :: starEach [e3, e4] X.env := by rfl) (q3 : starEach [e3, e4] X.env = (false, eval e3 X.env) :: starEach [e4] X.env := by rfl) (q4 : starEach [e4] X.env = (false, eval e4 X.env) :: starEach [] X.env := by rfl)
    (hpl : (backTo pos (starEach [e2, e3, e4] X.env)).any (·.1) = false := by rfl) : ED X (.Call (.Name "left_by" p') [e1, e2, e3, e4] [] pos) σ H (leftBy D W s p) :=
  ev_callR C hr hg (ear_left h1 h2 h3 h4 q1 q2 q3 q4) (fun vs H1 _ r Q q => by
    obtain ⟨v1, v2, v3, a, rfl, r1, r2, r3, r4⟩ := r
    exact ⟨_, ⟨W, s, p, D, v1, v2, v3, a, rfl, r1, r2, r3, r4, hz, rfl⟩, q⟩) (by decide) q1 hpl
/-- one of the places at which the least is left -/
def WorstR (W : Wb) (s : Sm) (p : Nat) : Prop := p ∈ without W s ∧ ∀ q ∈ without W s, leftBy (byDays W s.items.length).1 W s p ≤ leftBy (byDays W s.items.length).1 W s q
def p_worst_asking (K : PySem.W.Frag) : List PyData → (V → Hp → Prop) → Prop := fun ds R => ∃ (W : Wb) (s : Sm), ds = [Datum.toD W, Datum.toD s] ∧ VW W ∧ VS W.1 s ∧ without W s ≠ [] ∧ R = fun v H => ∃ p : Nat, WorstR W s p ∧ DD K H v p
abbrev N37 : List Str := [("web" : Str), ("some" : Str), ("places" : Str), ("days_of" : Str), ("rows" : Str), ("place" : Str)]
theorem sc37 : FnScope [("web" : Str), ("some" : Str), ("places" : Str), ("days_of" : Str), ("rows" : Str), ("place" : Str)] [("web" : Str), ("some" : Str)] (defScope (top 37)) := ⟨rfl, rfl, rfl, by decide +kernel, rfl, by decide +kernel, by decide +kernel⟩
theorem ok_worst_asking (F : FD K "worst_asking" 37 f fd) (hm : mg "worst_asking" = some (.ref f)) (hB : Bls mg) (C_must_web : Cal P w K mg base "must_web" 5 (SpD K (p_must_web K))) (C_must_places : Cal P w K mg base "must_places" 5 (SpD K (p_must_places K))) (C_without_guard : Cal P w K mg base "without_guard" 1 (SpD K (p_without_guard K))) (C_by_days : Cal P w K mg base "by_days" 4 (SpD K (p_by_days P w K))) (C_left_by : Cal P w K mg base "left_by" 3 (SpV (p_left_by P w K))) : Cal P w K mg base "worst_asking" 6 (SpD K (p_worst_asking K)) := by
  refine cal_of F sc37 hm (fun _ _ _ _ _ _ us hl => match us, hl with | [_, _], _ => rfl) (fun ds R h => by obtain ⟨W, z, rfl, hW, hz, hne, rfl⟩ := h; rfl) (fun cdv A outer s H vs E ds R hr d0 h => ?_)
  obtain ⟨W, z, rfl, hW, hz, hne, rfl⟩ := h
  obtain ⟨v1, v2, rfl, d1, d2⟩ := two_of d0

  refine rb_cons (rs_expr (ev_call C_must_web (hr.mono (by decide)) (by rfl) (ea_cons (ed_var 0 rfl d1) ea_nil) ⟨W, rfl, hW, rfl⟩) fun _ H1 s1 _ => ?_)
  refine rb_cons (rs_expr (ev_call C_must_places (hr.mono (by decide)) (by rfl) (ea_cons (ed_var 0 rfl (dp_same s1 d1)) (ea_cons (ed_var 1 rfl (dp_same s1 d2)) ea_nil)) ⟨W, z, rfl, hz, rfl⟩) fun _ H2 s2 _ => ?_)
  replace s2 := s1.trans s2

  refine rb_cons (rs_set 2 sc37.nd (ev_call C_without_guard (hr.mono (by decide)) (by rfl) (ea_cons (ed_var 0 rfl (dp_same s2 d1)) (ea_cons (ed_var 1 rfl (dp_same s2 d2)) ea_nil)) ⟨W, z, rfl, hW.2.1, rfl⟩) fun vp H3 s3 dp => ?_)
  refine rb_cons (rs_ifF (et_is (et_cmp (ec_eq (α := List Nat) (y := []) (by decide) (u64 hr) (ed_var 2 rfl dp) (ed_lst ea_nil rfl (by decide)))) (decide_eq_false hne)) fun H4 s4 => rb_nil ?_)
  replace dp := dp_same s4 dp
  replace s2 := (s2.trans s3).trans s4
  refine rb_cons (rs_set 3 sc37.nd (ev_ix0 (R2 := Gv K (byDays W z.items.length).2) (ev_call C_by_days (hr.mono (by decide)) (by rfl) (ea_cons (ed_var 0 rfl (dp_same s2 d1)) (ea_cons (ed_lenT hB (by rfl) (ed_var 1 rfl (dp_same s2 d2))) ea_nil)) ⟨W, z.items.length, rfl, hW, rfl⟩)) fun vd H5 s5 dd => ?_)
  obtain ⟨a, rfl, gd⟩ := dd
  replace dp := dp_same s5 dp
  replace s2 := s2.trans s5
  have hwl : (without W z).length ≤ 8 := by
    have := hW.2.1
    refine Nat.le_trans (List.length_filter_le _ _) ?_
    rw [List.length_range]
    exact this
  refine rb_cons (rs_setLc 4 (el_lcL (β := Int) (j := 5) (xs := without W z) (f := fun p => leftBy (byDays W z.items.length).1 W z p) (gs := fun _ => true) rfl sc37.nd (blkOk_by (N := N37) (sc := defScope (top 37)) (by decide +kernel)) (ed_var 2 rfl dp) (by omega) ?_ ?_ (fun _ _ _ _ _ => pg_name (i := 5) sc37.nd rfl (Or.inl rfl))) fun l xs H6 hl s6 hl6 hxs => ?_)
  · intro x v H1 s' H0 C cl fp hx sm dv
    exact ets_nil
  · intro x v H1 s' H0 C cl fp hx _ sm dv
    exact ee_of (β := Int) (ev_leftBy C_left_by (hr.mono (by decide)) (by rfl) (hz.up hW.2.1) (ed_var 0 rfl (dp_same (s2.trans sm) d1)) (ed_var 1 rfl (dp_same (s2.trans sm) d2)) (ed_var 5 rfl dv) (ev_var 3 rfl fun H2 s2 => ⟨a, rfl, dct_same (sm.trans s2) gd⟩))
  rw [filter_tt] at hxs
  have drow : DD K H6 (.ref l) ((without W z).map fun p => leftBy (byDays W z.items.length).1 W z p) := dd_ofL (SqL.of hl6) hxs
  obtain ⟨m, hm, hmin⟩ := least_of (l := (without W z).map fun p => leftBy (byDays W z.items.length).1 W z p) (by simpa using hne)
  refine rb_one (rs_ret (ev_ixP (l := without W z) (ed_var 2 rfl (dp_same s6 dp)) (ev_index (ed_var 4 rfl drow) (ed_minL rfl hB (by rfl) (ed_var 4 rfl drow) hm hmin) hm) ?_) fun v H7 s7 d => ⟨(s2.trans s6).trans s7, ?_⟩)
  · intro i hi
    have := (List.getElem?_eq_some_iff.mp hi).1
    simpa using this
  · obtain ⟨i, p, hi, hp, dv⟩ := d
    refine ⟨p, ⟨List.mem_of_getElem? hp, fun q hq => ?_⟩, dv⟩
    rw [List.getElem?_map, hp] at hi
    have e : leftBy (byDays W z.items.length).1 W z p = m := Option.some.inj hi
    rw [e]
    exact hmin _ (List.mem_map_of_mem hq)
def p_best_move (K : PySem.W.Frag) : List PyData → (V → Hp → Prop) → Prop := fun ds R => ∃ (W : Wb) (s : Sm) (p : Nat), ds = [Datum.toD W, Datum.toD s, Datum.toD p] ∧ VW W ∧ VS W.1 s ∧ p < W.1 ∧ p ∉ s.items ∧ R = Od K (bestMove W s p)
abbrev N38 : List Str := [("web" : Str), ("some" : Str), ("place" : Str), ("days_of" : Str), ("best" : Str), ("one" : Str)]
theorem sc38 : FnScope [("web" : Str), ("some" : Str), ("place" : Str), ("days_of" : Str), ("best" : Str), ("one" : Str)] [("web" : Str), ("some" : Str), ("place" : Str)] (defScope (top 38)) := ⟨rfl, rfl, rfl, by decide +kernel, rfl, by decide +kernel, by decide +kernel⟩
theorem ok_best_move (F : FD K "best_move" 38 f fd) (hm : mg "best_move" = some (.ref f)) (hB : Bls mg) (C_must_asked : Cal P w K mg base "must_asked" 6 (SpD K (p_must_asked K))) (C_left_by : Cal P w K mg base "left_by" 3 (SpV (p_left_by P w K))) (C_moves_of : Cal P w K mg base "moves_of" 2 (SpD K (p_moves_of K))) (C_by_days : Cal P w K mg base "by_days" 4 (SpD K (p_by_days P w K))) : Cal P w K mg base "best_move" 7 (SpD K (p_best_move K)) := by
  refine cal_of F sc38 hm (fun _ _ _ _ _ _ us hl => match us, hl with | [_, _, _], _ => rfl) (fun ds R h => by obtain ⟨W, z, p, rfl, hW, hz, hp, hn, rfl⟩ := h; rfl) (fun cdv A outer s H vs E ds R hr d0 h => ?_)
  obtain ⟨W, z, p, rfl, hW, hz, hp, hn, rfl⟩ := h
  obtain ⟨v1, v2, v3, rfl, d1, d2, d3⟩ := three_of d0

  refine rb_cons (rs_expr (ev_call C_must_asked hr (by rfl) (ea_cons (ed_var 0 rfl d1) (ea_cons (ed_var 1 rfl d2) (ea_cons (ed_var 2 rfl d3) ea_nil))) ⟨W, z, p, rfl, hW, hz, hp, hn, rfl⟩) fun _ H2 s2 _ => ?_)
  refine rb_cons (rs_set 3 sc38.nd (ev_ix0 (R2 := Gv K (byDays W z.items.length).2) (ev_call C_by_days (hr.mono (by decide)) (by rfl) (ea_cons (ed_var 0 rfl (dp_same s2 d1)) (ea_cons (ed_lenT hB (by rfl) (ed_var 1 rfl (dp_same s2 d2))) ea_nil)) ⟨W, z.items.length, rfl, hW, rfl⟩)) fun vd H5 s5 dd => ?_)
  obtain ⟨a, rfl, gd⟩ := dd
  replace s2 := s2.trans s5
  refine rb_cons (rs_set 4 sc38.nd (ev_leftBy C_left_by (hr.mono (by decide)) (by rfl) (hz.up hW.2.1) (ed_var 0 rfl (dp_same s2 d1)) (ed_var 1 rfl (dp_same s2 d2)) (ed_var 2 rfl (dp_same s2 d3)) (ev_var 3 rfl fun H3 s3 => ⟨a, rfl, dct_same s3 gd⟩)) fun vb H6 s6 db => ?_)
  replace s2 := s2.trans s6
  refine rb_cons (rs_forL (j := 5) (xs := movesOf W z p) PassesOwn.never rfl (ev_call C_moves_of (hr.mono (by decide)) (by rfl) (ea_cons (ed_var 0 rfl (dp_same s2 d1)) (ea_cons (ed_var 1 rfl (dp_same s2 d2)) (ea_cons (ed_var 2 rfl (dp_same s2 d3)) ea_nil))) ⟨W, z, p, rfl, hz.up hW.2.1, rfl⟩) (pg_name (i := 5) sc38.nd rfl (Or.inl rfl)) fun v H7 s7 dv => ⟨H7, fun i σ' H' => Same H7 H' ∧ (∃ c, σ' = [some v1, some v2, some v3, some (.ref a), some vb, c]) ∧
    ∀ m ∈ (movesOf W z p).take i, dget (byDays W z.items.length).1 m ≠ leftBy (byDays W z.items.length).1 W z p, dv, ⟨Same.refl _, ⟨none, rfl⟩, fun p hp => by cases hp⟩, fun i σ' H' q => q.1, ?_, ?_⟩)
  · rintro i m u σ' H' hm ⟨s8, ⟨c, rfl⟩, hall⟩ du
    have g8 := dct_same ((s6.trans s7).trans s8) gd
    have db8 := dp_same (s7.trans s8) db
    refine rb_one (rs_if (k := decide (dget (byDays W z.items.length).1 m = leftBy (byDays W z.items.length).1 W z p)) (et_cmp (ec_eq (α := Int) (by decide) (u64 hr) (ev_get2 (t := m) (n := (byDays W z.items.length).1.length + 1) (u64' hr) (ev_var 3 rfl fun H2 s2 => ⟨a, rfl, dct_same s2 g8⟩) (ed_var 5 rfl du) (ed_addN (j := 1) (ed_lenD hB (by rfl) (ev_var 3 rfl fun H2 s2 => ⟨a, rfl, dct_same s2 g8⟩)) (ed_nat 1)) ⟨rfl, rfl, rfl, rfl⟩) (ed_var 4 rfl db8)))
      (fun ht H9 s9 => rb_one (rs_ret (ed_var 5 rfl (dp_same s9 du)) fun v Ha sa d => ⟨((s2.trans s7).trans s8).trans (s9.trans sa), ?_⟩)) fun ht H9 s9 => rb_nil ⟨s8.trans s9, ⟨_, rfl⟩, ?_⟩)
    · have e : bestMove W z p = some m := by
        unfold bestMove
        have hs : movesOf W z p = (movesOf W z p).take i ++ m :: (movesOf W z p).drop (i + 1) := by
          have := (List.getElem?_eq_some_iff.mp hm)
          obtain ⟨h1, h2⟩ := this
          rw [← h2, ← List.drop_eq_getElem_cons h1, List.take_append_drop]
        rw [hs, List.find?_append, List.find?_eq_none.mpr fun x hx => by
          have := hall x hx
          simpa using this, List.find?_cons, ht]
        rfl
      show Od K (bestMove W z p) v Ha
      rw [e]
      exact d
    · intro q hq
      rw [take_succ_at hm, List.mem_append, List.mem_singleton] at hq
      rcases hq with hq | rfl
      · exact hall q hq
      · exact of_decide_eq_false ht
  · rintro σ' H' ⟨s8, ⟨c, rfl⟩, hall⟩
    rw [List.take_length] at hall
    refine rb_one (rs_ret ed_non fun v H9 s9 d => ⟨((s2.trans s7).trans s8).trans s9, ?_⟩)
    have e : bestMove W z p = none := by
      unfold bestMove
      rw [List.find?_eq_none]
      intro x hx
      have := hall x hx
      simpa using this
    show Od K (bestMove W z p) v H9
    rw [e]
    cases d
    rfl
end
end GF
set_option Elab.async false
set_option linter.all false
set_option maxRecDepth 100000
set_option maxHeartbeats 4000000
namespace GF
open PySem PySem.Spec PySem.W PyProof.Rows L2
section
variable {P : Program} {w : World} {K : PySem.W.Frag} {mg : Str → Option Value} {base : Heap} {f : Addr} {fd : FuncData}
theorem cutTo {α : Type} (l : List α) (k : Nat) : cutD l none (some (k : Int)) = l.take k := by
  unfold cutD
  have e : HT.sIx l.length l.length (some (k : Int)) = min k l.length := HT.sIx_nat l.length l.length k
  rw [e, HT.sIx_none]
  simp
theorem hood_len (W : Wb) (p : Nat) : (hood W p).items.length ≤ W.1 := by
  unfold hood
  refine Nat.le_trans (List.length_filter_le _ _) ?_
  rw [List.length_range]
  exact Nat.le_refl _
theorem fm_len (l : List Sm) (k : Nat) : ((List.range k).flatMap fun j => l.filter fun s => decide (s.items.length = j)).length ≤ k * l.length := by
  induction k with
  | zero => exact Nat.zero_le _
  | succ k ih =>
    rw [List.range_succ, List.flatMap_append, List.flatMap_singleton, List.length_append, Nat.succ_mul]
    exact Nat.add_le_add ih (List.length_filter_le _ _)
theorem byNumber_len {n : Nat} (h : n ≤ 8) : (byNumber n).length ≤ 9 * 256 :=
  Nat.le_trans (fm_len (allSome n) (n + 1)) (Nat.mul_le_mul (Nat.succ_le_succ h) (allSome_256 h))
theorem foldl_max_le (l : List Sm) : ∀ a : Nat, a ≤ l.foldl (fun m s => max m s.items.length) a ∧ (∀ s ∈ l, s.items.length ≤ l.foldl (fun m s => max m s.items.length) a) ∧ (l.foldl (fun m s => max m s.items.length) a = a ∨ ∃ s ∈ l, s.items.length = l.foldl (fun m s => max m s.items.length) a) := by
  induction l with
  | nil => exact fun a => ⟨Nat.le_refl _, fun s hs => (by cases hs), .inl rfl⟩
  | cons x l ih =>
    intro a
    obtain ⟨h1, h2, h3⟩ := ih (max a x.items.length)
    rw [List.foldl_cons]
    refine ⟨by omega, fun s hs => ?_, ?_⟩
    · rcases List.mem_cons.mp hs with rfl | hs
      · omega
      · exact h2 s hs
    · rcases h3 with h3 | ⟨s, hs, h3⟩
      · by_cases hx : a ≤ x.items.length
        · exact .inr ⟨x, List.mem_cons_self, by rw [h3]; omega⟩
        · exact .inl (by rw [h3]; omega)
      · exact .inr ⟨s, List.mem_cons_of_mem _ hs, h3⟩
theorem mostLen_spec {l : List Sm} (h : l ≠ []) : (∃ s ∈ l, s.items.length = mostLen l) ∧ ∀ s ∈ l, s.items.length ≤ mostLen l := by
  obtain ⟨h1, h2, h3⟩ := foldl_max_le l 0
  refine ⟨?_, h2⟩
  rcases h3 with h3 | h3
  · obtain ⟨x, r, rfl⟩ := List.exists_cons_of_ne_nil h
    refine ⟨x, List.mem_cons_self, ?_⟩
    have := h2 x List.mem_cons_self
    unfold mostLen
    omega
  · exact h3
theorem untiedGood_nil (W : Wb) : untiedGood W ⟨[]⟩ = true := rfl
theorem untiedRows_ne (W : Wb) : untiedRows W ≠ [] := by
  have : (⟨[]⟩ : Sm) ∈ untiedRows W := List.mem_filter.mpr ⟨allSome_mem.mpr (empty_VS _), untiedGood_nil W⟩
  exact List.ne_nil_of_mem this
theorem firstUntied_at (W : Wb) : ((untiedRows W).filter fun s => decide (s.items.length = mostLen (untiedRows W)))[0]? = some (firstUntied W) := by
  obtain ⟨s, hs, e⟩ := (mostLen_spec (untiedRows_ne W)).1
  have : s ∈ (untiedRows W).filter fun s => decide (s.items.length = mostLen (untiedRows W)) := List.mem_filter.mpr ⟨hs, decide_eq_true e⟩
  obtain ⟨x, r, hx⟩ := List.exists_cons_of_ne_nil (List.ne_nil_of_mem this)
  unfold firstUntied
  rw [hx]
  rfl
def p_holders_of (K : PySem.W.Frag) : List PyData → (V → Hp → Prop) → Prop := fun ds R => ∃ (W : Wb) (s : Sm) (p : Nat), ds = [Datum.toD W, Datum.toD s, Datum.toD p] ∧ VW W ∧ R = Gv K (holders W s p)
abbrev N40 : List Str := [("web" : Str), ("some" : Str), ("place" : Str), ("one" : Str)]
theorem sc40 : FnScope [("web" : Str), ("some" : Str), ("place" : Str), ("one" : Str)] [("web" : Str), ("some" : Str), ("place" : Str)] (defScope (top 40)) := ⟨rfl, rfl, rfl, by decide +kernel, rfl, by decide +kernel, by decide +kernel⟩
theorem ok_holders_of (F : FD K "holders_of" 40 f fd) (hm : mg "holders_of" = some (.ref f)) (hB : Bls mg) (C_hood_of : Cal P w K mg base "hood_of" 2 (SpD K (p_hood_of K))) : Cal P w K mg base "holders_of" 3 (SpD K (p_holders_of K)) := by
  refine cal_of F sc40 hm (fun _ _ _ _ _ _ us hl => match us, hl with | [_, _, _], _ => rfl) (fun ds R h => by obtain ⟨W, z, p, rfl, hW, rfl⟩ := h; rfl) (fun cdv A outer s H vs E ds R hr d0 h => ?_)
  obtain ⟨W, z, p, rfl, hW, rfl⟩ := h
  obtain ⟨v1, v2, v3, rfl, d1, d2, d3⟩ := three_of d0

  refine rb_one (rs_ret (ed_tupleL hB (by rfl) (ed_is (ed_ofEL (el_of (el_lcT (j := 3) (xs := hood W p) (f := fun o => o) (gs := fun o => decide (o ∈ z.items)) rfl sc40.nd (blkOk_by (N := N40) (sc := defScope (top 40)) (by decide +kernel)) (ev_call C_hood_of (hr.mono (by decide)) (by rfl) (ea_cons (ed_var 0 rfl d1) (ea_cons (ed_var 2 rfl d3) ea_nil)) ⟨W, p, rfl, hW, rfl⟩) (by have := hood_len W p; have := hW.2.1; omega) ?_ ?_ (fun _ _ _ _ _ => pg_name (i := 3) sc40.nd rfl (Or.inl rfl))))) (map_same _))) fun v H1 s d => ⟨s, d⟩)
  · intro x v H1 s' H0 C cl fp hx sm dv
    exact ets_one (et_cmp (ec_inT (by decide) (u64 hr) (ed_var 3 rfl dv) (ed_var 1 rfl (dp_same sm d2))))
  · intro x v H1 s' H0 C cl fp hx _ sm dv
    exact ee_of (ed_var 3 rfl dv)
def p_unheld_by (K : PySem.W.Frag) : List PyData → (V → Hp → Prop) → Prop := fun ds R => ∃ (W : Wb) (s : Sm), ds = [Datum.toD W, Datum.toD s] ∧ VW W ∧ R = Gv K (unheld W s)
abbrev N41 : List Str := [("web" : Str), ("some" : Str), ("place" : Str)]
theorem sc41 : FnScope [("web" : Str), ("some" : Str), ("place" : Str)] [("web" : Str), ("some" : Str)] (defScope (top 41)) := ⟨rfl, rfl, rfl, by decide +kernel, rfl, by decide +kernel, by decide +kernel⟩
theorem ok_unheld_by (F : FD K "unheld_by" 41 f fd) (hm : mg "unheld_by" = some (.ref f)) (hB : Bls mg) (C_holders_of : Cal P w K mg base "holders_of" 3 (SpD K (p_holders_of K))) : Cal P w K mg base "unheld_by" 4 (SpD K (p_unheld_by K)) := by
  refine cal_of F sc41 hm (fun _ _ _ _ _ _ us hl => match us, hl with | [_, _], _ => rfl) (fun ds R h => by obtain ⟨W, z, rfl, hW, rfl⟩ := h; rfl) (fun cdv A outer s H vs E ds R hr d0 h => ?_)
  obtain ⟨W, z, rfl, hW, rfl⟩ := h
  obtain ⟨v1, v2, rfl, d1, d2⟩ := two_of d0

  refine rb_one (rs_ret (ed_tupleL hB (by rfl) (ed_is (ed_ofEL (el_of (el_lcR (j := 2) (n := W.1) (f := fun o => o) (gs := fun p => decide (holders W z p = ⟨[]⟩)) rfl sc41.nd hB (by rfl) (blkOk_by (N := N41) (sc := defScope (top 41)) (by decide +kernel)) (ed_fst (x := W) (ed_var 0 rfl d1)) (by have := hW.2.1; omega) ?_ ?_ (fun _ _ _ _ _ => pg_name (i := 2) sc41.nd rfl (Or.inl rfl))))) (map_same _))) fun v H1 s d => ⟨s, d⟩)
  · intro x v H1 s' H0 C cl fp hx sm dv
    exact ets_one (et_cmp (ec_eq (α := Sm) (y := ⟨[]⟩) (by decide) (u64 hr) (ev_call C_holders_of (hr.mono (by decide)) (by rfl) (ea_cons (ed_var 0 rfl (dp_same sm d1)) (ea_cons (ed_var 1 rfl (dp_same sm d2)) (ea_cons (ed_var 2 rfl dv) ea_nil))) ⟨W, z, x, rfl, hW, rfl⟩) (ed_tup (α := Nat) (xs := []) ea_nil rfl (by decide))))
  · intro x v H1 s' H0 C cl fp hx _ sm dv
    exact ee_of (ed_var 2 rfl dv)
def p_hold_all (K : PySem.W.Frag) : List PyData → (V → Hp → Prop) → Prop := fun ds R => ∃ (W : Wb) (s : Sm), ds = [Datum.toD W, Datum.toD s] ∧ VW W ∧ R = Gv K (holdAll W s)
abbrev N42 : List Str := [("web" : Str), ("some" : Str)]
theorem sc42 : FnScope [("web" : Str), ("some" : Str)] [("web" : Str), ("some" : Str)] (defScope (top 42)) := ⟨rfl, rfl, rfl, by decide +kernel, rfl, by decide +kernel, by decide +kernel⟩
theorem ok_hold_all (F : FD K "hold_all" 42 f fd) (hm : mg "hold_all" = some (.ref f)) (hB : Bls mg) (C_unheld_by : Cal P w K mg base "unheld_by" 4 (SpD K (p_unheld_by K))) : Cal P w K mg base "hold_all" 5 (SpD K (p_hold_all K)) := by
  refine cal_of F sc42 hm (fun _ _ _ _ _ _ us hl => match us, hl with | [_, _], _ => rfl) (fun ds R h => by obtain ⟨W, z, rfl, hW, rfl⟩ := h; rfl) (fun cdv A outer s H vs E ds R hr d0 h => ?_)
  obtain ⟨W, z, rfl, hW, rfl⟩ := h
  obtain ⟨v1, v2, rfl, d1, d2⟩ := two_of d0

  exact rb_one (rs_ret (ed_cmp (ec_eq (α := Sm) (y := ⟨[]⟩) (by decide) (u64 hr) (ev_call C_unheld_by (hr.mono (by decide)) (by rfl) (ea_cons (ed_var 0 rfl d1) (ea_cons (ed_var 1 rfl d2) ea_nil)) ⟨W, z, rfl, hW, rfl⟩) (ed_tup (α := Nat) (xs := []) ea_nil rfl (by decide)))) fun v H1 s d => ⟨s, d⟩)
def p_holds_all (K : PySem.W.Frag) : List PyData → (V → Hp → Prop) → Prop := fun ds R => ∃ (W : Wb) (s : Sm), ds = [Datum.toD W, Datum.toD s] ∧ VW W ∧ VS W.1 s ∧ R = Gv K (holdAll W s)
abbrev N43 : List Str := [("web" : Str), ("some" : Str)]
theorem sc43 : FnScope [("web" : Str), ("some" : Str)] [("web" : Str), ("some" : Str)] (defScope (top 43)) := ⟨rfl, rfl, rfl, by decide +kernel, rfl, by decide +kernel, by decide +kernel⟩
theorem ok_holds_all (F : FD K "holds_all" 43 f fd) (hm : mg "holds_all" = some (.ref f)) (hB : Bls mg) (C_must_web : Cal P w K mg base "must_web" 5 (SpD K (p_must_web K))) (C_must_places : Cal P w K mg base "must_places" 5 (SpD K (p_must_places K))) (C_hold_all : Cal P w K mg base "hold_all" 5 (SpD K (p_hold_all K))) : Cal P w K mg base "holds_all" 6 (SpD K (p_holds_all K)) := by
  refine cal_of F sc43 hm (fun _ _ _ _ _ _ us hl => match us, hl with | [_, _], _ => rfl) (fun ds R h => by obtain ⟨W, z, rfl, hW, hz, rfl⟩ := h; rfl) (fun cdv A outer s H vs E ds R hr d0 h => ?_)
  obtain ⟨W, z, rfl, hW, hz, rfl⟩ := h
  obtain ⟨v1, v2, rfl, d1, d2⟩ := two_of d0

  refine rb_cons (rs_expr (ev_call C_must_web (hr.mono (by decide)) (by rfl) (ea_cons (ed_var 0 rfl d1) ea_nil) ⟨W, rfl, hW, rfl⟩) fun _ H1 s1 _ => ?_)
  refine rb_cons (rs_expr (ev_call C_must_places (hr.mono (by decide)) (by rfl) (ea_cons (ed_var 0 rfl (dp_same s1 d1)) (ea_cons (ed_var 1 rfl (dp_same s1 d2)) ea_nil)) ⟨W, z, rfl, hz, rfl⟩) fun _ H2 s2 _ => ?_)
  replace s2 := s1.trans s2

  exact rb_one (rs_ret (ev_call C_hold_all (hr.mono (by decide)) (by rfl) (ea_cons (ed_var 0 rfl (dp_same s2 d1)) (ea_cons (ed_var 1 rfl (dp_same s2 d2)) ea_nil)) ⟨W, z, rfl, hW, rfl⟩) fun v H3 s3 d => ⟨s2.trans s3, d⟩)
def p_fits (K : PySem.W.Frag) : List PyData → (V → Hp → Prop) → Prop := fun ds R => ∃ (W : Wb) (s : Sm) (p : Nat), ds = [Datum.toD W, Datum.toD s, Datum.toD p] ∧ s.items.length ≤ 1000 ∧ R = Gv K (fits W s p)
abbrev N45 : List Str := [("web" : Str), ("some" : Str), ("place" : Str), ("one" : Str)]
theorem sc45 : FnScope [("web" : Str), ("some" : Str), ("place" : Str), ("one" : Str)] [("web" : Str), ("some" : Str), ("place" : Str)] (defScope (top 45)) := ⟨rfl, rfl, rfl, by decide +kernel, rfl, by decide +kernel, by decide +kernel⟩
theorem ok_fits (F : FD K "fits" 45 f fd) (hm : mg "fits" = some (.ref f)) (hB : Bls mg) (C_tied : Cal P w K mg base "tied" 1 (SpD K (p_tied K))) : Cal P w K mg base "fits" 2 (SpD K (p_fits K)) := by
  refine cal_of F sc45 hm (fun _ _ _ _ _ _ us hl => match us, hl with | [_, _, _], _ => rfl) (fun ds R h => by obtain ⟨W, z, p, rfl, hz, rfl⟩ := h; rfl) (fun cdv A outer s H vs E ds R hr d0 h => ?_)
  obtain ⟨W, z, p, rfl, hz, rfl⟩ := h
  obtain ⟨v1, v2, v3, rfl, d1, d2, d3⟩ := three_of d0

  refine rb_one (rs_ret (ed_and (ed_cmp (ec_ninT (by decide) (u64 hr) (ed_var 2 rfl d3) (ed_var 1 rfl d2))) fun _ => ed_one (ed_not (ed_is (ed_any rfl hB (by rfl) (ed_ofEL (el_of (el_lcT (j := 3) (xs := z) (f := fun o => tied W p o) (gs := fun _ => true) rfl sc45.nd (blkOk_by (N := N45) (sc := defScope (top 45)) (by decide +kernel)) (ed_var 1 rfl d2) (by omega) ?_ ?_ (fun _ _ _ _ _ => pg_name (i := 3) sc45.nd rfl (Or.inl rfl)))))) (by rw [filter_tt])))) fun v H1 s d => ⟨s, d⟩)
  · intro x v H1 s' H0 C cl fp hx sm dv
    exact ets_nil
  · intro x v H1 s' H0 C cl fp hx _ sm dv
    exact ee_of (ev_call C_tied hr (by rfl) (ea_cons (ed_var 0 rfl (dp_same sm d1)) (ea_cons (ed_var 2 rfl (dp_same sm d3)) (ea_cons (ed_var 3 rfl dv) ea_nil))) ⟨W, p, x, rfl, rfl⟩)
def p_untied_good (K : PySem.W.Frag) : List PyData → (V → Hp → Prop) → Prop := fun ds R => ∃ (W : Wb) (s : Sm), ds = [Datum.toD W, Datum.toD s] ∧ s.items.length ≤ 1000 ∧ R = Gv K (untiedGood W s)
abbrev N46 : List Str := [("web" : Str), ("some" : Str), ("at" : Str), ("place" : Str)]
theorem sc46 : FnScope [("web" : Str), ("some" : Str), ("at" : Str), ("place" : Str)] [("web" : Str), ("some" : Str)] (defScope (top 46)) := ⟨rfl, rfl, rfl, by decide +kernel, rfl, by decide +kernel, by decide +kernel⟩
theorem ok_untied_good (F : FD K "untied_good" 46 f fd) (hm : mg "untied_good" = some (.ref f)) (hB : Bls mg) (C_fits : Cal P w K mg base "fits" 2 (SpD K (p_fits K))) : Cal P w K mg base "untied_good" 3 (SpD K (p_untied_good K)) := by
  refine cal_of F sc46 hm (fun _ _ _ _ _ _ us hl => match us, hl with | [_, _], _ => rfl) (fun ds R h => by obtain ⟨W, z, rfl, hz, rfl⟩ := h; rfl) (fun cdv A outer s H vs E ds R hr d0 h => ?_)
  obtain ⟨W, z, rfl, hz, rfl⟩ := h
  obtain ⟨v1, v2, rfl, d1, d2⟩ := two_of d0

  refine rb_one (rs_ret (ed_is (ed_all rfl hB (by rfl) (ed_ofEL (el_of (el_lcE (j1 := 2) (j2 := 3) (xs := z) (f := fun q => fits W ⟨z.items.take q.1⟩ q.2) (gs := fun _ => true) rfl sc46.nd hB (by rfl) (by decide) (blkOk_by (N := N46) (sc := defScope (top 46)) (by decide +kernel)) (ed_var 1 rfl d2) (by omega) ?_ ?_ (fun _ _ _ _ _ => pg_tup rfl (pgs_cons (pg_name (i := 2) sc46.nd rfl (Or.inl rfl)) (pgs_cons (pg_name (i := 3) sc46.nd rfl (Or.inl rfl)) pgs_nil))))))) ?_) fun v H1 s d => ⟨s, d⟩)
  · intro x u v H1 s' H0 C cl fp hx sm du dv
    exact ets_nil
  · intro x u v H1 s' H0 C cl fp hx _ sm du dv
    refine ee_of (ev_call C_fits hr (by rfl) (ea_cons (ed_var 0 rfl (dp_same sm d1)) (ea_cons (ed_is (ed_slT (l := z) (ed_var 1 rfl (dp_same sm d2)) eo_none (eo_some (i := (x.1 : Int)) (ed_var 2 rfl du))) (congrArg Tup.mk (cutTo z.items x.1))) (ea_cons (ed_var 3 rfl dv) ea_nil))) ⟨W, ⟨z.items.take x.1⟩, x.2, rfl, ?_, rfl⟩)
    show (z.items.take x.1).length ≤ 1000
    rw [List.length_take]
    omega
  · rw [filter_tt, List.all_map]
    rfl
def p_is_untied (K : PySem.W.Frag) : List PyData → (V → Hp → Prop) → Prop := fun ds R => ∃ (W : Wb) (s : Sm), ds = [Datum.toD W, Datum.toD s] ∧ VW W ∧ VS W.1 s ∧ R = Gv K (untiedGood W s)
abbrev N48 : List Str := [("web" : Str), ("some" : Str)]
theorem sc48 : FnScope [("web" : Str), ("some" : Str)] [("web" : Str), ("some" : Str)] (defScope (top 48)) := ⟨rfl, rfl, rfl, by decide +kernel, rfl, by decide +kernel, by decide +kernel⟩
theorem ok_is_untied (F : FD K "is_untied" 48 f fd) (hm : mg "is_untied" = some (.ref f)) (hB : Bls mg) (C_must_web : Cal P w K mg base "must_web" 5 (SpD K (p_must_web K))) (C_must_places : Cal P w K mg base "must_places" 5 (SpD K (p_must_places K))) (C_untied_good : Cal P w K mg base "untied_good" 3 (SpD K (p_untied_good K))) : Cal P w K mg base "is_untied" 6 (SpD K (p_is_untied K)) := by
  refine cal_of F sc48 hm (fun _ _ _ _ _ _ us hl => match us, hl with | [_, _], _ => rfl) (fun ds R h => by obtain ⟨W, z, rfl, hW, hz, rfl⟩ := h; rfl) (fun cdv A outer s H vs E ds R hr d0 h => ?_)
  obtain ⟨W, z, rfl, hW, hz, rfl⟩ := h
  obtain ⟨v1, v2, rfl, d1, d2⟩ := two_of d0

  refine rb_cons (rs_expr (ev_call C_must_web (hr.mono (by decide)) (by rfl) (ea_cons (ed_var 0 rfl d1) ea_nil) ⟨W, rfl, hW, rfl⟩) fun _ H1 s1 _ => ?_)
  refine rb_cons (rs_expr (ev_call C_must_places (hr.mono (by decide)) (by rfl) (ea_cons (ed_var 0 rfl (dp_same s1 d1)) (ea_cons (ed_var 1 rfl (dp_same s1 d2)) ea_nil)) ⟨W, z, rfl, hz, rfl⟩) fun _ H2 s2 _ => ?_)
  replace s2 := s1.trans s2

  exact rb_one (rs_ret (ev_call C_untied_good (hr.mono (by decide)) (by rfl) (ea_cons (ed_var 0 rfl (dp_same s2 d1)) (ea_cons (ed_var 1 rfl (dp_same s2 d2)) ea_nil)) ⟨W, z, rfl, by have := hz.len; have := hW.2.1; omega, rfl⟩) fun v H3 s3 d => ⟨s2.trans s3, d⟩)
def p_first_most_untied (K : PySem.W.Frag) : List PyData → (V → Hp → Prop) → Prop := fun ds R => ∃ (W : Wb), ds = [Datum.toD W] ∧ VW W ∧ R = Gv K (firstUntied W)
abbrev N49 : List Str := [("web" : Str), ("rows" : Str), ("many" : Str), ("some" : Str)]
theorem sc49 : FnScope [("web" : Str), ("rows" : Str), ("many" : Str), ("some" : Str)] [("web" : Str)] (defScope (top 49)) := ⟨rfl, rfl, rfl, by decide +kernel, rfl, by decide +kernel, by decide +kernel⟩
theorem ok_first_most_untied (F : FD K "first_most_untied" 49 f fd) (hm : mg "first_most_untied" = some (.ref f)) (hB : Bls mg) (C_all_some : Cal P w K mg base "all_some" 1 (SpD K (p_all_some K))) (C_untied_good : Cal P w K mg base "untied_good" 3 (SpD K (p_untied_good K))) : Cal P w K mg base "first_most_untied" 4 (SpD K (p_first_most_untied K)) := by
  refine cal_of F sc49 hm (fun _ _ _ _ _ _ us hl => match us, hl with | [_], _ => rfl) (fun ds R h => by obtain ⟨W, rfl, hW, rfl⟩ := h; rfl) (fun cdv A outer s H vs E ds R hr d0 h => ?_)
  obtain ⟨W, rfl, hW, rfl⟩ := h
  obtain ⟨v1, rfl, d1⟩ := one_of d0

  have h256 : (allSome W.1).length ≤ 256 := allSome_256 hW.2.1
  have r256 : (untiedRows W).length ≤ 256 := Nat.le_trans (List.length_filter_le _ _) h256
  refine rb_cons (rs_setLc 1 (el_is (m := untiedRows W) (el_lcL (j := 3) (xs := allSome W.1) (f := fun s => s) (gs := untiedGood W) rfl sc49.nd (blkOk_by (N := N49) (sc := defScope (top 49)) (by decide +kernel)) (ev_call C_all_some (hr.mono (by decide)) (by rfl) (ea_cons (ed_var 0 rfl d1) ea_nil) ⟨W, rfl, hW, rfl⟩) (by omega) ?_ ?_ (fun _ _ _ _ _ => pg_name (i := 3) sc49.nd rfl (Or.inl rfl))) (map_same _)) fun l xs H1 hl s1 hl1 hxs => ?_)
  · intro x v H1 s' H0 C cl fp hx sm dv
    exact ets_one (et_val (ev_call C_untied_good hr (by rfl) (ea_cons (ed_var 0 rfl (dp_same sm d1)) (ea_cons (ed_var 3 rfl dv) ea_nil)) ⟨W, x, rfl, by have := (allSome_mem.mp hx).len; have := hW.2.1; omega, rfl⟩))
  · intro x v H1 s' H0 C cl fp hx _ sm dv
    exact ee_of (ed_var 3 rfl dv)
  have dl : DD K H1 (.ref l) (untiedRows W) := dd_ofL (SqL.of hl1) hxs
  obtain ⟨⟨t, ht, et⟩, hmax⟩ := mostLen_spec (untiedRows_ne W)
  refine rb_cons (rs_set 2 sc49.nd (ed_maxL (l := (untiedRows W).map fun s => (s.items.length : Int)) (m := (mostLen (untiedRows W) : Int)) rfl hB (by rfl) (ed_is (ed_ofEL (el_of (el_lcL (β := Int) (j := 3) (xs := untiedRows W) (f := fun s => (s.items.length : Int)) (gs := fun _ => true) rfl sc49.nd (blkOk_by (N := N49) (sc := defScope (top 49)) (by decide +kernel)) (ed_var 1 rfl dl) (by omega) ?_ ?_ (fun _ _ _ _ _ => pg_name (i := 3) sc49.nd rfl (Or.inl rfl))))) (by rw [filter_tt])) ?_ ?_) fun vm H2 s2 dm => ?_)
  · intro x v H1 s' H0 C cl fp hx sm dv
    exact ets_nil
  · intro x v H1 s' H0 C cl fp hx _ sm dv
    exact ee_of (β := Int) (ed_lenT hB (by rfl) (ed_var 3 rfl dv))
  · exact List.mem_map.mpr ⟨t, ht, by rw [et]⟩
  · intro y hy
    obtain ⟨s, hs, rfl⟩ := List.mem_map.mp hy
    have := hmax s hs
    omega
  refine rb_one (rs_ret (ed_ixL (l := (untiedRows W).filter fun s => decide (s.items.length = mostLen (untiedRows W))) (i := 0) (ed_is (ed_ofEL (el_of (el_lcL (j := 3) (xs := untiedRows W) (f := fun s => s) (gs := fun s => decide (s.items.length = mostLen (untiedRows W))) rfl sc49.nd (blkOk_by (N := N49) (sc := defScope (top 49)) (by decide +kernel)) (ed_var 1 rfl (dp_same s2 dl)) (by omega) ?_ ?_ (fun _ _ _ _ _ => pg_name (i := 3) sc49.nd rfl (Or.inl rfl))))) (map_same _)) (ed_nat 0) (firstUntied_at W)) fun v H3 s3 d => ⟨(s1.trans s2).trans s3, d⟩)
  · intro x v H1 s' H0 C cl fp hx sm dv
    exact ets_one (et_cmp (ec_eq (α := Nat) (by decide) (u64 hr) (ed_lenT hB (by rfl) (ed_var 3 rfl dv)) (ed_var (x := mostLen (untiedRows W)) 2 rfl (dp_same sm dm))))
  · intro x v H1 s' H0 C cl fp hx _ sm dv
    exact ee_of (ed_var 3 rfl dv)
def p_most_untied (K : PySem.W.Frag) : List PyData → (V → Hp → Prop) → Prop := fun ds R => ∃ (W : Wb), ds = [Datum.toD W] ∧ VW W ∧ R = Gv K (mostUntied W)
abbrev N50 : List Str := [("web" : Str)]
theorem sc50 : FnScope [("web" : Str)] [("web" : Str)] (defScope (top 50)) := ⟨rfl, rfl, rfl, by decide +kernel, rfl, by decide +kernel, by decide +kernel⟩
theorem ok_most_untied (F : FD K "most_untied" 50 f fd) (hm : mg "most_untied" = some (.ref f)) (hB : Bls mg) (C_must_web : Cal P w K mg base "must_web" 5 (SpD K (p_must_web K))) (C_first_most_untied : Cal P w K mg base "first_most_untied" 4 (SpD K (p_first_most_untied K))) : Cal P w K mg base "most_untied" 6 (SpD K (p_most_untied K)) := by
  refine cal_of F sc50 hm (fun _ _ _ _ _ _ us hl => match us, hl with | [_], _ => rfl) (fun ds R h => by obtain ⟨W, rfl, hW, rfl⟩ := h; rfl) (fun cdv A outer s H vs E ds R hr d0 h => ?_)
  obtain ⟨W, rfl, hW, rfl⟩ := h
  obtain ⟨v1, rfl, d1⟩ := one_of d0

  refine rb_cons (rs_expr (ev_call C_must_web (hr.mono (by decide)) (by rfl) (ea_cons (ed_var 0 rfl d1) ea_nil) ⟨W, rfl, hW, rfl⟩) fun _ H1 s1 _ => ?_)

  exact rb_one (rs_ret (ed_lenT (l := firstUntied W) hB (by rfl) (ev_call C_first_most_untied (hr.mono (by decide)) (by rfl) (ea_cons (ed_var 0 rfl (dp_same s1 d1)) ea_nil) ⟨W, rfl, hW, rfl⟩)) fun v H3 s3 d => ⟨s1.trans s3, d⟩)
def p_first_untied (K : PySem.W.Frag) : List PyData → (V → Hp → Prop) → Prop := fun ds R => ∃ (W : Wb), ds = [Datum.toD W] ∧ VW W ∧ R = Gv K (firstUntied W)
abbrev N51 : List Str := [("web" : Str)]
theorem sc51 : FnScope [("web" : Str)] [("web" : Str)] (defScope (top 51)) := ⟨rfl, rfl, rfl, by decide +kernel, rfl, by decide +kernel, by decide +kernel⟩
theorem ok_first_untied (F : FD K "first_untied" 51 f fd) (hm : mg "first_untied" = some (.ref f)) (hB : Bls mg) (C_must_web : Cal P w K mg base "must_web" 5 (SpD K (p_must_web K))) (C_first_most_untied : Cal P w K mg base "first_most_untied" 4 (SpD K (p_first_most_untied K))) : Cal P w K mg base "first_untied" 6 (SpD K (p_first_untied K)) := by
  refine cal_of F sc51 hm (fun _ _ _ _ _ _ us hl => match us, hl with | [_], _ => rfl) (fun ds R h => by obtain ⟨W, rfl, hW, rfl⟩ := h; rfl) (fun cdv A outer s H vs E ds R hr d0 h => ?_)
  obtain ⟨W, rfl, hW, rfl⟩ := h
  obtain ⟨v1, rfl, d1⟩ := one_of d0

  refine rb_cons (rs_expr (ev_call C_must_web (hr.mono (by decide)) (by rfl) (ea_cons (ed_var 0 rfl d1) ea_nil) ⟨W, rfl, hW, rfl⟩) fun _ H1 s1 _ => ?_)

  exact rb_one (rs_ret (ev_call C_first_most_untied (hr.mono (by decide)) (by rfl) (ea_cons (ed_var 0 rfl (dp_same s1 d1)) ea_nil) ⟨W, rfl, hW, rfl⟩) fun v H3 s3 d => ⟨s1.trans s3, d⟩)
def p_first_that_holds (K : PySem.W.Frag) : List PyData → (V → Hp → Prop) → Prop := fun ds R => ∃ (W : Wb), ds = [Datum.toD W] ∧ VW W ∧ R = Gv K (firstHolds W)
abbrev N60 : List Str := [("web" : Str), ("rows" : Str), ("some" : Str)]
theorem sc60 : FnScope [("web" : Str), ("rows" : Str), ("some" : Str)] [("web" : Str)] (defScope (top 60)) := ⟨rfl, rfl, rfl, by decide +kernel, rfl, by decide +kernel, by decide +kernel⟩
theorem ok_first_that_holds (F : FD K "first_that_holds" 60 f fd) (hm : mg "first_that_holds" = some (.ref f)) (hB : Bls mg) (C_by_number : Cal P w K mg base "by_number" 2 (SpD K (p_by_number K))) (C_hold_all : Cal P w K mg base "hold_all" 5 (SpD K (p_hold_all K))) (hfh : ∀ W, VW W → (byNumber W.1).filter (holdAll W) ≠ []) : Cal P w K mg base "first_that_holds" 6 (SpD K (p_first_that_holds K)) := by
  refine cal_of F sc60 hm (fun _ _ _ _ _ _ us hl => match us, hl with | [_], _ => rfl) (fun ds R h => by obtain ⟨W, rfl, hW, rfl⟩ := h; rfl) (fun cdv A outer s H vs E ds R hr d0 h => ?_)
  obtain ⟨W, rfl, hW, rfl⟩ := h
  obtain ⟨v1, rfl, d1⟩ := one_of d0

  have hl := byNumber_len hW.2.1
  have hx0 : ((byNumber W.1).filter (holdAll W))[0]? = some (firstHolds W) := by
    obtain ⟨x, r, hx⟩ := List.exists_cons_of_ne_nil (hfh W hW)
    unfold firstHolds
    rw [hx]
    rfl
  refine rb_cons (rs_setLc 1 (el_is (m := (byNumber W.1).filter (holdAll W)) (el_lcL (j := 2) (xs := byNumber W.1) (f := fun s => s) (gs := holdAll W) rfl sc60.nd (blkOk_by (N := N60) (sc := defScope (top 60)) (by decide +kernel)) (ev_call C_by_number (hr.mono (by decide)) (by rfl) (ea_cons (ed_var 0 rfl d1) ea_nil) ⟨W, rfl, hW, rfl⟩) (by omega) ?_ ?_ (fun _ _ _ _ _ => pg_name (i := 2) sc60.nd rfl (Or.inl rfl))) (map_same _)) fun l xs H1 hl s1 hl1 hxs => ?_)
  · intro x v H1 s' H0 C cl fp hx sm dv
    exact ets_one (et_val (ev_call C_hold_all hr (by rfl) (ea_cons (ed_var 0 rfl (dp_same sm d1)) (ea_cons (ed_var 2 rfl dv) ea_nil)) ⟨W, x, rfl, hW, rfl⟩))
  · intro x v H1 s' H0 C cl fp hx _ sm dv
    exact ee_of (ed_var 2 rfl dv)
  have dl : DD K H1 (.ref l) ((byNumber W.1).filter (holdAll W)) := dd_ofL (SqL.of hl1) hxs
  exact rb_one (rs_ret (ed_ixL (i := 0) (ed_var 1 rfl dl) (ed_nat 0) hx0) fun v H3 s3 d => ⟨s1.trans s3, d⟩)
def p_fewest (K : PySem.W.Frag) : List PyData → (V → Hp → Prop) → Prop := fun ds R => ∃ (W : Wb), ds = [Datum.toD W] ∧ VW W ∧ R = Gv K (fewest W)
abbrev N61 : List Str := [("web" : Str)]
theorem sc61 : FnScope [("web" : Str)] [("web" : Str)] (defScope (top 61)) := ⟨rfl, rfl, rfl, by decide +kernel, rfl, by decide +kernel, by decide +kernel⟩
theorem ok_fewest (F : FD K "fewest" 61 f fd) (hm : mg "fewest" = some (.ref f)) (hB : Bls mg) (C_must_web : Cal P w K mg base "must_web" 5 (SpD K (p_must_web K))) (C_first_that_holds : Cal P w K mg base "first_that_holds" 6 (SpD K (p_first_that_holds K))) : Cal P w K mg base "fewest" 7 (SpD K (p_fewest K)) := by
  refine cal_of F sc61 hm (fun _ _ _ _ _ _ us hl => match us, hl with | [_], _ => rfl) (fun ds R h => by obtain ⟨W, rfl, hW, rfl⟩ := h; rfl) (fun cdv A outer s H vs E ds R hr d0 h => ?_)
  obtain ⟨W, rfl, hW, rfl⟩ := h
  obtain ⟨v1, rfl, d1⟩ := one_of d0

  refine rb_cons (rs_expr (ev_call C_must_web (hr.mono (by decide)) (by rfl) (ea_cons (ed_var 0 rfl d1) ea_nil) ⟨W, rfl, hW, rfl⟩) fun _ H1 s1 _ => ?_)

  exact rb_one (rs_ret (ed_lenT (l := firstHolds W) hB (by rfl) (ev_call C_first_that_holds (hr.mono (by decide)) (by rfl) (ea_cons (ed_var 0 rfl (dp_same s1 d1)) ea_nil) ⟨W, rfl, hW, rfl⟩)) fun v H3 s3 d => ⟨s1.trans s3, d⟩)
end
end GF
set_option Elab.async false
set_option linter.all false
set_option maxRecDepth 100000
set_option maxHeartbeats 1000000
/-! partings: every one is a parting into crowds -/
namespace GF
open PySem.W
def isCrowd (W : Wb) (s : Sm) : Prop := ∀ i x, s.items[i]? = some x → ∀ y ∈ s.items.take i, tied W x y = true
structure PartOk (W : Wb) (k : Nat) (c : List Sm) : Prop where
  vs : ∀ s ∈ c, VS k s ∧ s.items ≠ []
  hd : c.Pairwise fun s t => s.items.headD 0 < t.items.headD 0
  pm : (c.map (·.items)).flatten.Perm (List.range k)
  cr : ∀ s ∈ c, isCrowd W s
theorem flat_len_ge : ∀ {c : List Sm}, (∀ s ∈ c, s.items ≠ []) → c.length ≤ (c.map (·.items)).flatten.length
  | [], _ => Nat.zero_le _
  | s :: c, h => by
    have ih := flat_len_ge (c := c) fun t ht => h t (List.mem_cons_of_mem _ ht)
    have : 0 < s.items.length := List.length_pos_iff.mpr (h s List.mem_cons_self)
    simp only [List.map_cons, List.flatten_cons, List.length_append, List.length_cons]
    omega
theorem PartOk.len {W : Wb} {k : Nat} {c : List Sm} (h : PartOk W k c) : c.length ≤ k := by
  have := flat_len_ge (c := c) fun s hs => (h.vs s hs).2
  have e := h.pm.length_eq
  rw [List.length_range] at e
  omega
theorem split_at {α : Type} {c : List α} {i : Nat} {t : α} (h : c[i]? = some t) : c = c.take i ++ t :: c.drop (i + 1) := by
  obtain ⟨h1, h2⟩ := List.getElem?_eq_some_iff.mp h
  rw [← h2, ← List.drop_eq_getElem_cons h1, List.take_append_drop]
theorem putAt_mem {W : Wb} {p : Nat} {c d : List Sm} (h : d ∈ putAt W p c) : ∃ i t, c[i]? = some t ∧ (t.items.map fun o => tied W p o).all id = true ∧ d = c.take i ++ [⟨t.items ++ [p]⟩] ++ c.drop (i + 1) := by
  obtain ⟨q, hq, rfl⟩ := List.mem_map.mp h
  obtain ⟨h1, h2⟩ := List.mem_filter.mp hq
  obtain ⟨j, hj⟩ := List.mem_iff_getElem?.mp h1
  obtain ⟨e1, e2⟩ := numd_at (xs := c) hj
  exact ⟨q.1, q.2, by rw [e1]; exact e2, h2, rfl⟩
theorem crowd_snoc {W : Wb} {t : Sm} {p : Nat} (h : isCrowd W t) (ha : ∀ o ∈ t.items, tied W p o = true) : isCrowd W ⟨t.items ++ [p]⟩ := by
  intro i x hx y hy
  show tied W x y = true
  by_cases hi : i < t.items.length
  · rw [List.getElem?_append_left hi] at hx
    rw [List.take_append_of_le_length (by omega)] at hy
    exact h i x hx y hy
  · have hl := (List.getElem?_eq_some_iff.mp hx).1
    rw [List.length_append, List.length_singleton] at hl
    have e : i = t.items.length := by omega
    subst e
    rw [List.getElem?_append_right (Nat.le_refl _), Nat.sub_self] at hx
    cases hx
    rw [List.take_append_of_le_length (Nat.le_refl _), List.take_length] at hy
    exact ha y hy
theorem headD_snoc {l : List Nat} (h : l ≠ []) (p : Nat) : (l ++ [p]).headD 0 = l.headD 0 := by
  cases l with
  | nil => exact absurd rfl h
  | cons x r => rfl
theorem partings_ok (W : Wb) : ∀ k c, c ∈ partings W k → PartOk W k c
  | 0, c, h => by
    have e : c = [] := by simpa [partings] using h
    subst e
    exact ⟨fun s hs => (by cases hs), .nil, .refl _, fun s hs => (by cases hs)⟩
  | k + 1, d, h => by
    rw [partings, List.mem_flatMap] at h
    obtain ⟨c, hc, h⟩ := h
    have ih := partings_ok W k c hc
    have up : ∀ s ∈ c, VS (k + 1) s ∧ s.items ≠ [] := fun s hs => ⟨(ih.vs s hs).1.up (Nat.le_succ k), (ih.vs s hs).2⟩
    rcases List.mem_append.mp h with h | h
    · obtain ⟨i, t, hi, ha, rfl⟩ := putAt_mem h
      have ht : t ∈ c := List.mem_of_getElem? hi
      have hs := split_at hi
      have ha' : ∀ o ∈ t.items, tied W k o = true := fun o ho => by
        have := List.all_eq_true.mp ha (tied W k o) (List.mem_map_of_mem ho)
        exact this
      have mem : ∀ s ∈ c.take i ++ [(⟨t.items ++ [k]⟩ : Sm)] ++ c.drop (i + 1), s ∈ c ∨ s = ⟨t.items ++ [k]⟩ := fun s h => by
        rw [List.append_assoc, List.mem_append, List.mem_append, List.mem_singleton] at h
        rcases h with h | h | h
        · exact .inl (List.mem_of_mem_take h)
        · exact .inr h
        · exact .inl (List.mem_of_mem_drop h)
      have vt := ih.vs t ht
      refine ⟨fun s h => ?_, ?_, ?_, fun s h => ?_⟩
      · rcases mem s h with h | rfl
        · exact up s h
        · refine ⟨⟨List.pairwise_append.mpr ⟨vt.1.1, List.pairwise_singleton _ _, fun a ha b hb => ?_⟩, fun x hx => ?_⟩, by simp⟩
          · rw [List.mem_singleton.mp hb]
            exact vt.1.2 a ha
          · rcases List.mem_append.mp hx with hx | hx
            · exact Nat.lt_succ_of_lt (vt.1.2 x hx)
            · rw [List.mem_singleton.mp hx]
              exact Nat.lt_succ_self k
      · have hh := ih.hd
        rw [hs] at hh
        have e : ∀ s : Sm, s = ⟨t.items ++ [k]⟩ → s.items.headD 0 = t.items.headD 0 := fun s q => by
          rw [q]
          exact headD_snoc vt.2 k
        obtain ⟨p1, p2, p3⟩ := List.pairwise_append.mp hh
        obtain ⟨p4, p5⟩ := List.pairwise_cons.mp p2
        rw [List.append_assoc]
        refine List.pairwise_append.mpr ⟨p1, List.pairwise_cons.mpr ⟨fun b hb => ?_, p5⟩, fun a ha b hb => ?_⟩
        · rw [e _ rfl]
          exact p4 b hb
        · rcases List.mem_cons.mp hb with rfl | hb
          · rw [e _ rfl]
            exact p3 a ha t List.mem_cons_self
          · exact p3 a ha b (List.mem_cons_of_mem _ hb)
      · have hp := ih.pm
        rw [hs] at hp
        simp only [List.map_append, List.map_cons, List.flatten_append, List.flatten_cons, List.map_nil, List.flatten_nil, List.append_nil] at hp ⊢
        rw [List.range_succ]
        refine List.Perm.trans ?_ (hp.append_right [k])
        simp only [List.append_assoc]
        refine List.Perm.append_left _ (List.Perm.append_left _ ?_)
        exact List.perm_append_comm
      · rcases mem s h with h | rfl
        · exact ih.cr s h
        · exact crowd_snoc (ih.cr t ht) ha'
    · rw [List.mem_singleton] at h
      subst h
      refine ⟨fun s h => ?_, ?_, ?_, fun s h => ?_⟩
      · rcases List.mem_append.mp h with h | h
        · exact up s h
        · rw [List.mem_singleton.mp h]
          exact ⟨⟨List.pairwise_singleton _ _, fun x hx => by rw [List.mem_singleton.mp hx]; exact Nat.lt_succ_self k⟩, by simp⟩
      · refine List.pairwise_append.mpr ⟨ih.hd, List.pairwise_singleton _ _, fun a ha b hb => ?_⟩
        rw [List.mem_singleton.mp hb]
        show a.items.headD 0 < k
        have := ih.vs a ha
        obtain ⟨x, r, hx⟩ := List.exists_cons_of_ne_nil this.2
        rw [hx]
        exact this.1.2 x (by rw [hx]; exact List.mem_cons_self)
      · rw [List.map_append, List.flatten_append, List.range_succ]
        exact ih.pm.append_right [k]
      · rcases List.mem_append.mp h with h | h
        · exact ih.cr s h
        · rw [List.mem_singleton.mp h]
          intro i x hx y hy
          cases i with
          | zero => cases hy
          | succ i => cases hx
theorem flatMap_len {α β : Type} {l : List α} {f : α → List β} {m : Nat} (h : ∀ x ∈ l, (f x).length ≤ m) : (l.flatMap f).length ≤ l.length * m := by
  induction l with
  | nil => simp
  | cons x l ih =>
    rw [List.flatMap_cons, List.length_append, List.length_cons, Nat.succ_mul]
    have := h x List.mem_cons_self
    have := ih fun y hy => h y (List.mem_cons_of_mem _ hy)
    omega
theorem putAt_len (W : Wb) (p : Nat) (c : List Sm) : (putAt W p c).length ≤ c.length := by
  unfold putAt
  rw [List.length_map]
  refine Nat.le_trans (List.length_filter_le _ _) ?_
  rw [List.length_zip, List.length_range]
  omega
def fac : Nat → Nat
  | 0 => 1
  | k + 1 => fac k * (k + 1)
theorem partings_len (W : Wb) : ∀ k, (partings W k).length ≤ fac k
  | 0 => Nat.le_refl _
  | k + 1 => by
    rw [partings, fac]
    refine Nat.le_trans (flatMap_len (m := k + 1) fun c hc => ?_) (Nat.mul_le_mul_right _ (partings_len W k))
    have := putAt_len W k c
    have := (partings_ok W k c hc).len
    rw [List.length_append, List.length_singleton]
    omega
theorem fac_mono : ∀ {j k : Nat}, j ≤ k → fac j ≤ fac k := by
  intro j k h
  induction h with
  | refl => exact Nat.le_refl _
  | step _ ih => exact Nat.le_trans ih (Nat.le_mul_of_pos_right _ (Nat.succ_pos _))
theorem partings_8 (W : Wb) {k : Nat} (h : k ≤ 8) : (partings W k).length ≤ 40320 := Nat.le_trans (partings_len W k) (fac_mono h)
theorem partings_ne (W : Wb) : ∀ k, partings W k ≠ []
  | 0 => by simp [partings]
  | k + 1 => by
    obtain ⟨c, r, hc⟩ := List.exists_cons_of_ne_nil (partings_ne W k)
    rw [partings, hc, List.flatMap_cons]
    simp
theorem foldl_min_le (l : List (List Sm)) : ∀ a : Nat, l.foldl (fun m c => min m c.length) a ≤ a ∧ (∀ c ∈ l, l.foldl (fun m c => min m c.length) a ≤ c.length) ∧ (l.foldl (fun m c => min m c.length) a = a ∨ ∃ c ∈ l, c.length = l.foldl (fun m c => min m c.length) a) := by
  induction l with
  | nil => exact fun a => ⟨Nat.le_refl _, fun s hs => (by cases hs), .inl rfl⟩
  | cons x l ih =>
    intro a
    obtain ⟨h1, h2, h3⟩ := ih (min a x.length)
    rw [List.foldl_cons]
    refine ⟨by omega, fun s hs => ?_, ?_⟩
    · rcases List.mem_cons.mp hs with rfl | hs
      · omega
      · exact h2 s hs
    · rcases h3 with h3 | ⟨s, hs, h3⟩
      · by_cases hx : x.length ≤ a
        · exact .inr ⟨x, List.mem_cons_self, by rw [h3]; omega⟩
        · exact .inl (by rw [h3]; omega)
      · exact .inr ⟨s, List.mem_cons_of_mem _ hs, h3⟩
theorem leastLen_spec {l : List (List Sm)} (h : l ≠ []) : (∃ c ∈ l, c.length = leastLen l) ∧ ∀ c ∈ l, leastLen l ≤ c.length := by
  obtain ⟨x, r, rfl⟩ := List.exists_cons_of_ne_nil h
  obtain ⟨h1, h2, h3⟩ := foldl_min_le r x.length
  refine ⟨?_, fun c hc => ?_⟩
  · rcases h3 with h3 | ⟨c, hc, h3⟩
    · exact ⟨x, List.mem_cons_self, h3.symm⟩
    · exact ⟨c, List.mem_cons_of_mem _ hc, h3⟩
  · rcases List.mem_cons.mp hc with rfl | hc
    · exact h1
    · exact h2 c hc
def fewRow (W : Wb) : List Sm := ((partings W W.1).filter fun c => decide (c.length = leastLen (partings W W.1))).headD []
theorem fewCrowds_eq (W : Wb) : fewCrowds W = (fewRow W).mergeSort leD := rfl
theorem fewRow_at (W : Wb) : ((partings W W.1).filter fun c => decide (c.length = leastLen (partings W W.1)))[0]? = some (fewRow W) := by
  obtain ⟨s, hs, e⟩ := (leastLen_spec (partings_ne W W.1)).1
  have : s ∈ (partings W W.1).filter fun c => decide (c.length = leastLen (partings W W.1)) := List.mem_filter.mpr ⟨hs, decide_eq_true e⟩
  obtain ⟨x, r, hx⟩ := List.exists_cons_of_ne_nil (List.ne_nil_of_mem this)
  unfold fewRow
  rw [hx]
  rfl
theorem fewRow_mem (W : Wb) : fewRow W ∈ partings W W.1 ∧ (fewRow W).length = leastLen (partings W W.1) := by
  have := List.mem_filter.mp (List.mem_of_getElem? (fewRow_at W))
  exact ⟨this.1, of_decide_eq_true this.2⟩
end GF
set_option Elab.async false
set_option linter.all false
set_option maxRecDepth 100000
set_option maxHeartbeats 4000000
namespace GF
open PySem PySem.Spec PySem.W PyProof.Rows L2
section
variable {P : Program} {w : World} {K : PySem.W.Frag} {mg : Str → Option Value} {base : Heap} {f : Addr} {fd : FuncData}
structure CrowdsV (W : Wb) (c : List Sm) : Prop where
  vs : ∀ s ∈ c, VS W.1 s ∧ s.items ≠ []
  pw : c.Pairwise fun s t => DatumOrd.lt s t = true
  al : (c.map (·.items)).flatten.mergeSort leD = List.range W.1
  cr : ∀ s ∈ c, isCrowd W s
theorem CrowdsV.flen {W : Wb} {c : List Sm} (h : CrowdsV W c) : (c.map (·.items)).flatten.length = W.1 := by
  have := congrArg List.length h.al
  rwa [List.length_mergeSort, List.length_range] at this
theorem CrowdsV.len {W : Wb} {c : List Sm} (h : CrowdsV W c) : c.length ≤ W.1 := by
  have := flat_len_ge (c := c) fun s hs => (h.vs s hs).2
  have := h.flen
  omega
theorem CrowdsV.ne {W : Wb} {c : List Sm} (h : CrowdsV W c) (hW : VW W) : c ≠ [] := by
  intro e
  subst e
  have := h.flen
  have := hW.1
  simp at *
  omega
theorem cutFrom {α : Type} (l : List α) (k : Nat) : cutD l (some (k : Int)) none = l.drop k := by
  unfold cutD
  have e : HT.sIx l.length 0 (some (k : Int)) = min k l.length := HT.sIx_nat l.length 0 k
  rw [e, HT.sIx_none]
  by_cases h : k ≤ l.length
  · rw [Nat.min_eq_left h, List.take_of_length_le (by simp)]
  · rw [Nat.min_eq_right (by omega), List.drop_length, List.drop_eq_nil_of_le (by omega), List.take_nil]
theorem numd_get {α : Type} {xs : List α} {i : Nat} {x : α} (h : xs[i]? = some x) : (numd xs)[i]? = some (i, x) := by
  unfold numd
  rw [List.getElem?_zip_eq_some]
  exact ⟨List.getElem?_range (List.getElem?_eq_some_iff.mp h).1, h⟩
theorem flatMap_take_le {α β : Type} (l : List α) (f : α → List β) (k : Nat) : ((l.take k).flatMap f).length ≤ (l.flatMap f).length := by
  conv => rhs; rw [← List.take_append_drop k l, List.flatMap_append, List.length_append]
  exact Nat.le_add_right _ _
theorem crossed_snoc (c : List Sm) (s : Sm) : crossed (c ++ [s]) = (crossed c).flatMap fun one => s.items.map fun p => (⟨one.items ++ [p]⟩ : Sm) := by
  unfold crossed
  rw [List.foldl_append]
  rfl
theorem crossed_take {c : List Sm} {i : Nat} {s : Sm} (h : c[i]? = some s) : crossed (c.take (i + 1)) = (crossed (c.take i)).flatMap fun one => s.items.map fun p => (⟨one.items ++ [p]⟩ : Sm) := by
  rw [take_succ_at h, crossed_snoc]
theorem crossed_len (c : List Sm) : ∀ i, i ≤ c.length → (crossed (c.take i)).length ≤ 2 ^ ((c.take i).map (·.items)).flatten.length := by
  intro i
  induction i with
  | zero => exact fun _ => Nat.le_refl _
  | succ i ih =>
    intro hi
    have h : c[i]? = some c[i] := List.getElem?_eq_getElem (by omega)
    rw [crossed_take h, take_succ_at h, List.map_append, List.flatten_append, List.length_append, Nat.pow_add]
    refine Nat.le_trans (flatMap_len (m := c[i].items.length) fun x _ => by rw [List.length_map]; exact Nat.le_refl _) ?_
    refine Nat.mul_le_mul (ih (by omega)) ?_
    have : ([c[i]].map (·.items)).flatten.length = c[i].items.length := by simp
    rw [this]
    exact Nat.le_of_lt Nat.lt_two_pow_self
theorem crossed_256 {W : Wb} {c : List Sm} (h : CrowdsV W c) (hW : VW W) (i : Nat) (hi : i ≤ c.length) : (crossed (c.take i)).length ≤ 256 := by
  refine Nat.le_trans (crossed_len c i hi) ?_
  have e : ((c.take i).map (·.items)).flatten.length ≤ 8 := by
    have h1 := h.flen
    have h2 := hW.2.1
    have h3 : (c.map (·.items)).flatten.length = ((c.take i).map (·.items)).flatten.length + ((c.drop i).map (·.items)).flatten.length := by
      conv => lhs; rw [← List.take_append_drop i c, List.map_append, List.flatten_append, List.length_append]
    omega
  exact Nat.le_trans (Nat.pow_le_pow_right (by decide) e) (by decide)
theorem crossed_items (c : List Sm) : ∀ i, i ≤ c.length → ∀ one ∈ crossed (c.take i), one.items.length = i := by
  intro i
  induction i with
  | zero =>
    intro _ one h
    have e : one = ⟨[]⟩ := by simpa [crossed] using h
    rw [e]
    rfl
  | succ i ih =>
    intro hi one h
    have hc : c[i]? = some c[i] := List.getElem?_eq_getElem (by omega)
    rw [crossed_take hc, List.mem_flatMap] at h
    obtain ⟨o, ho, h⟩ := h
    obtain ⟨p, _, rfl⟩ := List.mem_map.mp h
    show (o.items ++ [p]).length = i + 1
    rw [List.length_append, ih (by omega) o ho]
    rfl
def p_is_crowd (K : PySem.W.Frag) : List PyData → (V → Hp → Prop) → Prop := fun ds R => ∃ (W : Wb) (s : Sm), ds = [Datum.toD W, Datum.toD s] ∧ s.items.length ≤ 1000 ∧ isCrowd W s ∧ R = Gv K true
abbrev N52 : List Str := [("web" : Str), ("some" : Str), ("at" : Str), ("one" : Str), ("other" : Str)]
theorem sc52 : FnScope [("web" : Str), ("some" : Str), ("at" : Str), ("one" : Str), ("other" : Str)] [("web" : Str), ("some" : Str)] (defScope (top 52)) := ⟨rfl, rfl, rfl, by decide +kernel, rfl, by decide +kernel, by decide +kernel⟩
theorem ok_is_crowd (F : FD K "is_crowd" 52 f fd) (hm : mg "is_crowd" = some (.ref f)) (hB : Bls mg) (C_tied : Cal P w K mg base "tied" 1 (SpD K (p_tied K))) : Cal P w K mg base "is_crowd" 2 (SpD K (p_is_crowd K)) := by
  refine cal_of F sc52 hm (fun _ _ _ _ _ _ us hl => match us, hl with | [_, _], _ => rfl) (fun ds R h => by obtain ⟨W, z, rfl, hz, hc, rfl⟩ := h; rfl) (fun cdv A outer s H vs E ds R hr d0 h => ?_)
  obtain ⟨W, z, rfl, hz, hc, rfl⟩ := h
  obtain ⟨v1, v2, rfl, d1, d2⟩ := two_of d0

  refine rb_cons (rs_forET (j1 := 2) (j2 := 3) (xs := z) PassesOwn.never rfl hB (by rfl) (ed_var 1 rfl d2) (pg_tup rfl (pgs_cons (pg_name (i := 2) sc52.nd rfl (Or.inl rfl)) (pgs_cons (pg_name (i := 3) sc52.nd rfl (Or.inr rfl)) pgs_nil))) fun v H3 s3 dv =>
    ⟨H3, fun i σ' H' => Same H3 H' ∧ ∃ a b, σ' = [some v1, some v2, a, b, none], dv, ⟨Same.refl _, none, none, rfl⟩, fun i σ' H' q => q.1, ?_, ?_⟩)
  · rintro i q u σ' H' H'' hx ⟨s4, a, b, rfl⟩ s5 du
    have d1' := dp_same ((s3.trans s4).trans s5) d1
    have d2' := dp_same ((s3.trans s4).trans s5) d2
    refine rb_one (rs_ifF (et_not (k := true) (et_is (et_val (ed_all rfl hB (by rfl) (ed_ofEL (el_of (el_lcT (j := 4) (xs := ⟨z.items.take i⟩) (f := fun o => tied W q o) (gs := fun _ => true) rfl sc52.nd (blkOk_by (N := N52) (sc := defScope (top 52)) (by decide +kernel)) (ed_is (ed_slT (l := z) (ed_var 1 rfl d2') eo_none (eo_some (i := (i : Int)) (ed_var 2 rfl (.int _)))) (congrArg Tup.mk (cutTo z.items i))) ?_ ?_ ?_ (fun _ _ _ _ _ => pg_name (i := 4) sc52.nd rfl (Or.inl rfl))))))) ?_)) fun H5 s6 => rb_nil ⟨(s4.trans s5).trans s6, _, _, rfl⟩)
    · show (z.items.take i).length < 10000000
      rw [List.length_take]
      omega
    · intro x v H1 s' H0 C cl fp hx sm dv
      exact ets_nil
    · intro x v H1 s' H0 C cl fp hx _ sm dv
      exact ee_of (ev_call C_tied hr (by rfl) (ea_cons (ed_var 0 rfl (dp_same sm d1')) (ea_cons (ed_var 3 rfl (dp_same sm du)) (ea_cons (ed_var 4 rfl dv) ea_nil))) ⟨W, q, x, rfl, rfl⟩)
    · rw [filter_tt, List.all_map, List.all_eq_true]
      exact fun y hy => hc i q hx y hy
  · rintro σ' H' ⟨s4, a, b, rfl⟩
    exact rb_one (rs_ret ed_bl fun v H5 s5 d => ⟨(s3.trans s4).trans s5, d⟩)
def p_crowds_good (K : PySem.W.Frag) : List PyData → (V → Hp → Prop) → Prop := fun ds R => ∃ (W : Wb) (c : List Sm), ds = [Datum.toD W, Datum.toD c] ∧ VW W ∧ CrowdsV W c ∧ R = Gv K true
abbrev N53 : List Str := [("web" : Str), ("thing" : Str), ("places" : Str), ("one" : Str), ("other" : Str), ("some" : Str)]
theorem sc53 : FnScope [("web" : Str), ("thing" : Str), ("places" : Str), ("one" : Str), ("other" : Str), ("some" : Str)] [("web" : Str), ("thing" : Str)] (defScope (top 53)) := ⟨rfl, rfl, rfl, by decide +kernel, rfl, by decide +kernel, by decide +kernel⟩
theorem ok_crowds_good (F : FD K "crowds_good" 53 f fd) (hm : mg "crowds_good" = some (.ref f)) (hB : Bls mg) (C_is_crowd : Cal P w K mg base "is_crowd" 2 (SpD K (p_is_crowd K))) (C_are_places : Cal P w K mg base "are_places" 4 (SpD K (p_are_places K))) : Cal P w K mg base "crowds_good" 5 (SpD K (p_crowds_good K)) := by
  refine cal_of F sc53 hm (fun _ _ _ _ _ _ us hl => match us, hl with | [_, _], _ => rfl) (fun ds R h => by obtain ⟨W, c, rfl, hW, hc, rfl⟩ := h; rfl) (fun cdv A outer s H vs E ds R hr d0 h => ?_)
  obtain ⟨W, c, rfl, hW, hc, rfl⟩ := h
  obtain ⟨v1, v2, rfl, d1, d2⟩ := two_of d0

  have hl := hc.len
  have h8 := hW.2.1
  refine rb_cons (rs_ifF (et_of_ew (ew_or (k := false) (m := false) (et_not (k := true) (et_val (ed_isi (T := "list") hB (by rfl) (by rfl) hB.list (by decide +kernel) (ed_var (x := c) 1 rfl d2) (fun _ _ => tyx_list) (by decide +kernel)))) fun _ =>
    ew_or1 (et_not (k := true) (et_is (et_val (ed_all rfl hB (by rfl) (ed_ofEL (el_of (el_lcL (j := 5) (xs := c) (f := fun _ => true) (gs := fun _ => true) rfl sc53.nd (blkOk_by (N := N53) (sc := defScope (top 53)) (by decide +kernel)) (ed_var 1 rfl d2) (by omega) ?_ ?_ (fun _ _ _ _ _ => pg_name (i := 5) sc53.nd rfl (Or.inl rfl))))))) ?_)))) fun H2 s2 => rb_nil ?_)
  · intro x v H1 s' H0 C cl fp hx sm dv
    exact ets_nil
  · intro x v H1 s' H0 C cl fp hx _ sm dv
    exact ee_of (ed_and (k := true) (m := true) (ev_call C_are_places hr (by rfl) (ea_cons (ed_var 0 rfl (dp_same sm d1)) (ea_cons (ed_var 5 rfl dv) ea_nil)) ⟨W, x, rfl, (hc.vs x hx).1, rfl⟩) fun _ => ed_one (ed_is (ed_cmp (ec_ne (α := Sm) (y := ⟨[]⟩) (by decide) (u64 hr) (ed_var 5 rfl dv) (ed_tup (α := Nat) (xs := []) ea_nil rfl (by decide)))) (decide_eq_true fun e => (hc.vs x hx).2 (by rw [e]))))
  · simp
  replace d1 := dp_same s2 d1
  replace d2 := dp_same s2 d2
  refine rb_cons (rs_forZ (j1 := 3) (j2 := 4) (xs := c) (ys := c.drop 1) PassesOwn.never rfl hB (by rfl) (ed_var 1 rfl d2) (ed_is (ed_slL (ed_var (x := c) 1 rfl d2) (eo_some ed_int) eo_none) (cut1 c)) (pg_tup rfl (pgs_cons (pg_name (i := 3) sc53.nd rfl (Or.inl rfl)) (pgs_cons (pg_name (i := 4) sc53.nd rfl (Or.inl rfl)) pgs_nil))) fun H3 s3 =>
    ⟨fun i σ' H' => Same H3 H' ∧ ∃ a b, σ' = [some v1, some v2, none, a, b, none], ⟨Same.refl _, none, none, rfl⟩, fun i σ' H' q => q.1, ?_, ?_⟩)
  · rintro i x y u v σ' H' H'' hx hy ⟨s4, a, b, rfl⟩ s5 du dv
    refine rb_one (rs_ifF (et_is (et_cmp (ec_geT (by decide) (u64 hr) (ed_var 3 rfl du) (ed_var 4 rfl dv))) ?_) fun H6 s6 => rb_nil ⟨(s4.trans s5).trans s6, _, _, rfl⟩)
    rw [List.getElem?_drop, Nat.add_comm] at hy
    have := pw_at' hc.pw hx hy
    rw [this]
    rfl
  · rintro σ' H' ⟨s4, a, b, rfl⟩
    replace s4 := s3.trans s4
    replace d1 := dp_same s4 d1
    replace d2 := dp_same s4 d2
    have hfl : (c.map (·.items)).flatten.length ≤ sizeLine := by
      rw [hc.flen]
      exact Nat.le_trans h8 (by decide)
    refine rb_cons (rs_set 2 sc53.nd (ed_sorted (δ := Nat) (l := (c.map (·.items)).flatten) (by decide) (u128 hr) hB (by rfl) (ed_sumL (ls := c.map (·.items)) rfl hB (by rfl) (ed_is (ed_ofEL (el_of (el_lcL (j := 5) (xs := c) (f := fun s => s.items) (gs := fun _ => true) rfl sc53.nd (blkOk_by (N := N53) (sc := defScope (top 53)) (by decide +kernel)) (ed_var 1 rfl d2) (by omega) ?_ ?_ (fun _ _ _ _ _ => pg_name (i := 5) sc53.nd rfl (Or.inl rfl))))) (by rw [filter_tt])) (by simpa using hc.ne hW) hfl) (ints_ok _)) fun vp H5 s5 dp => ?_)
    · intro x v H1 s' H0 C cl fp hx sm dv
      exact ets_nil
    · intro x v H1 s' H0 C cl fp hx _ sm dv
      exact ee_ofL (el_listT hB (by rfl) (ed_var 5 rfl dv))
    rw [hc.al] at dp
    refine rb_one (rs_ret (ed_and (k := true) (m := true) (ed_is (ed_cmp (ec_eq (α := List Nat) (x := List.range W.1) (y := List.range W.1) (by decide) (u64 hr) (ed_var 2 rfl dp) (ed_listRg rfl hB (by rfl) (by rfl) (ed_fst (x := W) (ed_var 0 rfl (dp_same s5 d1))) (by omega)))) (decide_eq_true rfl)) fun _ => ed_one (ed_is (ed_all rfl hB (by rfl) (ed_ofEL (el_of (el_lcL (j := 5) (xs := c) (f := fun _ => true) (gs := fun _ => true) rfl sc53.nd (blkOk_by (N := N53) (sc := defScope (top 53)) (by decide +kernel)) (ed_var 1 rfl (dp_same s5 d2)) (by omega) ?_ ?_ (fun _ _ _ _ _ => pg_name (i := 5) sc53.nd rfl (Or.inl rfl)))))) ?_)) fun w H6 s6 d => ⟨((s2.trans s4).trans s5).trans s6, d⟩)
    · intro x v H1 s' H0 C cl fp hx sm dv
      exact ets_nil
    · intro x v H1 s' H0 C cl fp hx _ sm dv
      exact ee_of (ev_call C_is_crowd (hr.mono (by decide)) (by rfl) (ea_cons (ed_var 0 rfl (dp_same sm (dp_same s5 d1))) (ea_cons (ed_var 5 rfl dv) ea_nil)) ⟨W, x, rfl, by have := (hc.vs x hx).1.len; omega, hc.cr x hx, rfl⟩)
    · simp
def p_partings (K : PySem.W.Frag) : List PyData → (V → Hp → Prop) → Prop := fun ds R => ∃ (W : Wb), ds = [Datum.toD W] ∧ VW W ∧ R = Gv K (partings W W.1)
abbrev N54 : List Str := [("web" : Str), ("found" : Str), ("place" : Str), ("more" : Str), ("crowds" : Str), ("at" : Str), ("some" : Str), ("one" : Str)]
theorem sc54 : FnScope [("web" : Str), ("found" : Str), ("place" : Str), ("more" : Str), ("crowds" : Str), ("at" : Str), ("some" : Str), ("one" : Str)] [("web" : Str)] (defScope (top 54)) := ⟨rfl, rfl, rfl, by decide +kernel, rfl, by decide +kernel, by decide +kernel⟩
theorem ok_partings (F : FD K "partings" 54 f fd) (hm : mg "partings" = some (.ref f)) (hB : Bls mg) (C_tied : Cal P w K mg base "tied" 1 (SpD K (p_tied K))) : Cal P w K mg base "partings" 2 (SpD K (p_partings K)) := by
  refine cal_of F sc54 hm (fun _ _ _ _ _ _ us hl => match us, hl with | [_], _ => rfl) (fun ds R h => by obtain ⟨W, rfl, hW, rfl⟩ := h; rfl) (fun cdv A outer s H vs E ds R hr d0 h => ?_)
  obtain ⟨W, rfl, hW, rfl⟩ := h
  obtain ⟨v1, rfl, d1⟩ := one_of d0

  have h8 := hW.2.1
  refine rb_cons (rs_set 1 sc54.nd (ed_lst (xs := [([] : List Sm)]) (ea_cons (ed_lst (xs := ([] : List Sm)) ea_nil rfl (by decide)) ea_nil) rfl (by decide)) fun vf H1 s1 df => ?_)
  refine rb_cons (rs_forR (j := 2) (n := W.1) PassesOwn.never rfl hB (by rfl) (ed_fst (x := W) (ed_var 0 rfl (dp_same s1 d1))) (by omega) (pg_name (i := 2) sc54.nd rfl (Or.inr rfl))
    (fun i σ' H' => Same H H' ∧ ∃ vf a b c d e f, σ' = [some v1, some vf, a, b, c, d, e, f] ∧ DD K H' vf (partings W i)) (fun H2 s2 => ⟨s1.trans s2, vf, none, none, none, none, none, none, rfl, dp_same s2 df⟩) ?_ ?_)
  · rintro i σ' Ha hi ⟨sa, vf, a, b, c, d, e, f, rfl, df⟩
    have hpl := partings_8 W (show i ≤ 8 by omega)
    refine rb_cons (rs_setL 3 sc54.nd el_nil fun l xs Hb hl sb hlb hxs => ?_)
    subst hxs
    have bnd : ∀ k, (((partings W i).take k).flatMap fun c => putAt W i c ++ [c ++ [(⟨[i]⟩ : Sm)]]).length ≤ 40320 * 9 := fun k => by
      refine Nat.le_trans (flatMap_take_le _ _ k) (Nat.le_trans (flatMap_len (m := 9) fun c hc => ?_) (Nat.mul_le_mul_right _ hpl))
      have := putAt_len W i c
      have := (partings_ok W i c hc).len
      rw [List.length_append, List.length_singleton]
      omega
    refine rb_cons (rs_forL0 (j := 4) (xs := partings W i) PassesOwn.never rfl (ev_var (R := fun v _ => v = vf) 1 rfl fun _ _ => rfl) (pg_name (i := 4) sc54.nd rfl (Or.inl rfl)) fun v Hc scc hv => ⟨Ha, fun k σ' H' => Same Ha H' ∧ (∃ c d e f, σ' = [some v1, some vf, some (.int (i : Int)), some (.ref l), c, d, e, f]) ∧
      ∃ ys, H' l = some (.lst ys) ∧ DDs K (hid H' l) ys (((partings W i).take k).flatMap fun c => putAt W i c ++ [c ++ [(⟨[i]⟩ : Sm)]]), by rw [hv]; exact df, ⟨sb.trans scc, ⟨_, _, _, _, rfl⟩, [], scc l _ hlb, .nil⟩, fun i σ' H' q => q.1, ?_, ?_⟩)
    · rintro k cr u σ' Hd hcr ⟨sd, ⟨c, d, e, f, rfl⟩, ys, hys, dys⟩ du
      have hcm := List.mem_of_getElem? hcr
      have pok := partings_ok W i cr hcm
      have pl := pok.len
      have prelen := dds_length dys
      have preb := bnd k
      refine rb_cons (rs_forEL0 (j1 := 5) (j2 := 6) (xs := cr) PassesOwn.never rfl hB (by rfl) (ev_var (R := fun v _ => v = u) 4 rfl fun _ _ => rfl) (pg_tup rfl (pgs_cons (pg_name (i := 5) sc54.nd rfl (Or.inl rfl)) (pgs_cons (pg_name (i := 6) sc54.nd rfl (Or.inl rfl)) pgs_nil))) fun v He se hv => ⟨Ha, fun m σ' H' => Same Ha H' ∧ (∃ d e f, σ' = [some v1, some vf, some (.int (i : Int)), some (.ref l), some u, d, e, f]) ∧
        ∃ zs, H' l = some (.lst zs) ∧ DDs K (hid H' l) zs ((((partings W i).take k).flatMap fun c => putAt W i c ++ [c ++ [(⟨[i]⟩ : Sm)]]) ++ (((numd cr).take m).filter fun q => (q.2.items.map fun o => tied W i o).all id).map fun q => cr.take q.1 ++ [(⟨q.2.items ++ [i]⟩ : Sm)] ++ cr.drop (q.1 + 1)),
        by rw [hv]; exact du, ⟨sd.trans se, ⟨_, _, _, rfl⟩, ys, se l _ hys, by
          rw [show (numd cr).take 0 = [] from rfl, List.filter_nil, List.map_nil, List.append_nil]
          exact dps_same (hid_mono se) dys⟩, fun i σ' H' q => q.1, ?_, ?_⟩)
      · rintro m t ut T tys σ' Hf ht ⟨sf, ⟨d, e, f, rfl⟩, zs, hzs, dzs⟩ hT dut
        have htm := List.mem_of_getElem? ht
        have hml := (List.getElem?_eq_some_iff.mp ht).1
        have tok := pok.vs t htm
        have tl := tok.1.len
        have hnum := numd_get ht
        have sT : Same Hf (upd Hf T (.tup tys)) := same_new hT
        have d1' := dp_same (sa.trans (sf.trans sT)) d1
        have dut' := dp_same (sf.trans sT) dut
        have du' := dp_same (sf.trans sT) du
        have hzs' := sT l _ hzs
        have zlen := dds_length dzs
        refine rb_one (rs_if (k := (t.items.map fun o => tied W i o).all id) (et_is (et_val (ed_all rfl hB (by rfl) (ed_ofEL (el_of (el_lcT (j := 7) (xs := t) (f := fun o => tied W i o) (gs := fun _ => true) rfl sc54.nd (blkOk_by (N := N54) (sc := defScope (top 54)) (by decide +kernel)) (ed_var 6 rfl dut') (by omega) ?_ ?_ (fun _ _ _ _ _ => pg_name (i := 7) sc54.nd rfl (Or.inl rfl))))))) (by rw [filter_tt])) (fun hk Hg sg => ?_) fun hk Hg sg => rb_nil ⟨sf.trans (sT.trans sg), ⟨_, _, _, rfl⟩, zs, sg l _ hzs', ?_⟩)
        · intro x v H1 s' H0 C cl fp hx sm dv
          exact ets_nil
        · intro x v H1 s' H0 C cl fp hx _ sm dv
          exact ee_of (ev_call C_tied hr (by rfl) (ea_cons (ed_var 0 rfl (dp_same sm d1')) (ea_cons (ed_var (x := i) 2 rfl (.int _)) (ea_cons (ed_var 7 rfl dv) ea_nil))) ⟨W, i, x, rfl, rfl⟩)
        · have hzb : zs.length < 16000000 := by
            rw [zlen, List.length_append, List.length_map]
            have h1 := List.length_filter_le (fun q : Nat × Sm => (q.2.items.map fun o => tied W i o).all id) ((numd cr).take m)
            have h2 : ((numd cr).take m).length ≤ m := by rw [List.length_take]; exact Nat.min_le_left _ _
            omega
          refine rb_one (rs_append (x := cr.take m ++ [(⟨t.items ++ [i]⟩ : Sm)] ++ cr.drop (m + 1)) 3 rfl (sg l _ hzs') (ee_ofL (el_catL (t := cr.take m ++ [(⟨t.items ++ [i]⟩ : Sm)]) (u := cr.drop (m + 1))
            (ed_catL (t := cr.take m) (u := [(⟨t.items ++ [i]⟩ : Sm)]) (ed_is (ed_slL (l := cr) (ed_var 4 rfl (dp_same sg du')) eo_none (eo_some (i := (m : Int)) (ed_var 5 rfl (.int _)))) (cutTo cr m)) (ed_lst (xs := [(⟨t.items ++ [i]⟩ : Sm)]) (ea_cons (ed_catT (t := t) (u := ⟨[i]⟩) (ed_var 6 rfl (dp_same sg dut')) (ed_tup (xs := [i]) (ea_cons (ed_var (x := i) 2 rfl (.int _)) ea_nil) rfl (show 1 ≤ 1000 by decide)) ?_) ea_nil) rfl (show 1 ≤ 1000 by decide)) ?_)
            (ed_is (ed_slL (l := cr) (ed_var 4 rfl (dp_same sg du')) (eo_some (i := ((m + 1 : Nat) : Int)) (ed_addN (i := m) (j := 1) (ed_var 5 rfl (.int _)) (ed_nat 1))) eo_none) (cutFrom cr (m + 1))) ?_)) hzb fun w Hh sh dw => ?_)
          · show t.items.length + 1 ≤ 1000
            omega
          · refine Nat.le_trans (?_ : _ ≤ 1000) (by decide)
            rw [List.length_take, List.length_singleton]
            omega
          · refine Nat.le_trans (?_ : _ ≤ 1000) (by decide)
            rw [List.length_append, List.length_take, List.length_drop, List.length_singleton]
            omega
          · refine ⟨same_mut (sf.trans (sT.trans (sg.trans sh))) hl, ⟨_, _, _, rfl⟩, _, upd_same, ?_⟩
            rw [hid_upd, fm_yes hnum hk, ← List.append_assoc]
            exact dds_append (dps_same (hid_mono (sT.trans (sg.trans sh))) dzs) (dds_one dw)
        · rw [fm_no hnum hk]
          exact dps_same (hid_mono (sT.trans sg)) dzs
      · rintro σ' Hf ⟨sf, ⟨d, e, f, rfl⟩, zs, hzs, dzs⟩
        have du' := dp_same sf du
        have hnl : (numd cr).take cr.length = numd cr := by rw [← numd_len (xs := cr), List.take_length]
        rw [hnl] at dzs
        have zlen := dds_length dzs
        have hzb : zs.length < 16000000 := by
          rw [zlen, List.length_append, List.length_map]
          have h1 := List.length_filter_le (fun q : Nat × Sm => (q.2.items.map fun o => tied W i o).all id) (numd cr)
          rw [numd_len] at h1
          omega
        refine rb_one (rs_append (x := cr ++ [(⟨[i]⟩ : Sm)]) 3 rfl hzs (ee_ofL (el_catL (t := cr) (u := [(⟨[i]⟩ : Sm)]) (ed_var 4 rfl du') (ed_lst (xs := [(⟨[i]⟩ : Sm)]) (ea_cons (ed_tup (xs := [i]) (ea_cons (ed_var (x := i) 2 rfl (.int _)) ea_nil) rfl (show 1 ≤ 1000 by decide)) ea_nil) rfl (show 1 ≤ 1000 by decide)) ?_)) hzb fun w Hh sh dw => ?_)
        · refine Nat.le_trans (?_ : _ ≤ 1000) (by decide)
          rw [List.length_singleton]
          omega
        · refine ⟨same_mut (sf.trans sh) hl, ⟨_, _, _, _, rfl⟩, _, upd_same, ?_⟩
          rw [hid_upd, take_succ_at hcr, List.flatMap_append, List.flatMap_singleton]
          show DDs K _ _ (_ ++ (putAt W i cr ++ [cr ++ [(⟨[i]⟩ : Sm)]]))
          rw [← List.append_assoc]
          exact dds_append (dps_same (hid_mono sh) dzs) (dds_one dw)
    · rintro σ' Hd ⟨sd, ⟨c, d, e, f, rfl⟩, ys, hys, dys⟩
      rw [List.take_length] at dys
      exact rb_one (rs_set 1 sc54.nd (ed_var (x := partings W (i + 1)) 3 rfl (dd_ofL (SqL.of hys) (dps_same hid_same dys))) fun v He se dv => ⟨(sa.trans sd).trans se, v, _, _, _, _, _, _, rfl, dv⟩)
  · rintro σ' H' ⟨sa, vf, a, b, c, d, e, f, rfl, df⟩
    exact rb_one (rs_ret (ed_var 1 rfl df) fun v H3 s3 d => ⟨sa.trans s3, d⟩)
end
end GF
set_option Elab.async false
set_option linter.all false
set_option maxRecDepth 100000
set_option maxHeartbeats 4000000
namespace GF
open PySem PySem.Spec PySem.W PyProof.Rows L2
section
variable {P : Program} {w : World} {K : PySem.W.Frag} {mg : Str → Option Value} {base : Heap} {f : Addr} {fd : FuncData}
def p_few_crowds (K : PySem.W.Frag) : List PyData → (V → Hp → Prop) → Prop := fun ds R => ∃ (W : Wb), ds = [Datum.toD W] ∧ VW W ∧ R = Gv K (fewCrowds W)
abbrev N55 : List Str := [("web" : Str), ("rows" : Str), ("many" : Str), ("crowds" : Str)]
theorem sc55 : FnScope [("web" : Str), ("rows" : Str), ("many" : Str), ("crowds" : Str)] [("web" : Str)] (defScope (top 55)) := ⟨rfl, rfl, rfl, by decide +kernel, rfl, by decide +kernel, by decide +kernel⟩
theorem ok_few_crowds (F : FD K "few_crowds" 55 f fd) (hm : mg "few_crowds" = some (.ref f)) (hB : Bls mg) (C_partings : Cal P w K mg base "partings" 2 (SpD K (p_partings K))) : Cal P w K mg base "few_crowds" 3 (SpD K (p_few_crowds K)) := by
  refine cal_of F sc55 hm (fun _ _ _ _ _ _ us hl => match us, hl with | [_], _ => rfl) (fun ds R h => by obtain ⟨W, rfl, hW, rfl⟩ := h; rfl) (fun cdv A outer s H vs E ds R hr d0 h => ?_)
  obtain ⟨W, rfl, hW, rfl⟩ := h
  obtain ⟨v1, rfl, d1⟩ := one_of d0

  have hpl := partings_8 W hW.2.1
  refine rb_cons (rs_set 1 sc55.nd (ev_call C_partings (hr.mono (by decide)) (by rfl) (ea_cons (ed_var 0 rfl d1) ea_nil) ⟨W, rfl, hW, rfl⟩) fun vr H1 s1 dr => ?_)
  have dr : DD K H1 vr (partings W W.1) := dr
  obtain ⟨⟨t, ht, et⟩, hmin⟩ := leastLen_spec (partings_ne W W.1)
  refine rb_cons (rs_set 2 sc55.nd (ed_minL (l := (partings W W.1).map fun c => (c.length : Int)) (m := (leastLen (partings W W.1) : Int)) rfl hB (by rfl) (ed_is (ed_ofEL (el_of (el_lcL (β := Int) (j := 3) (xs := partings W W.1) (f := fun c => (c.length : Int)) (gs := fun _ => true) rfl sc55.nd (blkOk_by (N := N55) (sc := defScope (top 55)) (by decide +kernel)) (ed_var 1 rfl dr) (by omega) ?_ ?_ (fun _ _ _ _ _ => pg_name (i := 3) sc55.nd rfl (Or.inl rfl))))) (by rw [filter_tt])) ?_ ?_) fun vm H2 s2 dm => ?_)
  · intro x v H1 s' H0 C cl fp hx sm dv
    exact ets_nil
  · intro x v H1 s' H0 C cl fp hx _ sm dv
    exact ee_of (β := Int) (ed_lenL hB (by rfl) (ed_var 3 rfl dv))
  · exact List.mem_map.mpr ⟨t, ht, by rw [et]⟩
  · intro y hy
    obtain ⟨s, hs, rfl⟩ := List.mem_map.mp hy
    have := hmin s hs
    omega
  refine rb_one (rs_ret (ed_sorted (δ := Sm) (l := fewRow W) (by decide) (u128 hr) hB (by rfl) (ed_ixL (l := (partings W W.1).filter fun c => decide (c.length = leastLen (partings W W.1))) (i := 0) (ed_ofEL (el_of (el_lcF (j := 3) (xs := partings W W.1) (gs := fun c => decide (c.length = leastLen (partings W W.1))) rfl sc55.nd (blkOk_by (N := N55) (sc := defScope (top 55)) (by decide +kernel)) (ed_var 1 rfl (dp_same s2 dr)) (by omega) ?_ (fun _ _ _ _ _ v H1 Q q => re_of (pe_var (i := 3) rfl (by first | exact Or.inl rfl | exact Or.inr (Or.inl rfl) | exact Or.inr (Or.inr rfl)) (by decide) (by decide)) ⟨v, rfl, q⟩) (fun _ _ _ _ _ => pg_name (i := 3) sc55.nd rfl (Or.inl rfl))))) (ed_nat 0) (fewRow_at W)) (srt_ne fun s hs => ((partings_ok W W.1 _ (fewRow_mem W).1).vs s hs).2)) fun v H3 s3 d => ⟨(s1.trans s2).trans s3, d⟩)
  intro x v H1 s' H0 C cl fp hx sm dv
  exact ets_one (et_cmp (ec_eq (α := Nat) (by decide) (u64 hr) (ed_lenL hB (by rfl) (ed_var 3 rfl dv)) (ed_var (x := leastLen (partings W W.1)) 2 rfl (dp_same sm dm))))
def p_fewest_crowds (K : PySem.W.Frag) : List PyData → (V → Hp → Prop) → Prop := fun ds R => ∃ (W : Wb), ds = [Datum.toD W] ∧ VW W ∧ R = Gv K (fewCrowds W).length
abbrev N56 : List Str := [("web" : Str)]
theorem sc56 : FnScope [("web" : Str)] [("web" : Str)] (defScope (top 56)) := ⟨rfl, rfl, rfl, by decide +kernel, rfl, by decide +kernel, by decide +kernel⟩
theorem ok_fewest_crowds (F : FD K "fewest_crowds" 56 f fd) (hm : mg "fewest_crowds" = some (.ref f)) (hB : Bls mg) (C_must_web : Cal P w K mg base "must_web" 5 (SpD K (p_must_web K))) (C_few_crowds : Cal P w K mg base "few_crowds" 3 (SpD K (p_few_crowds K))) : Cal P w K mg base "fewest_crowds" 6 (SpD K (p_fewest_crowds K)) := by
  refine cal_of F sc56 hm (fun _ _ _ _ _ _ us hl => match us, hl with | [_], _ => rfl) (fun ds R h => by obtain ⟨W, rfl, hW, rfl⟩ := h; rfl) (fun cdv A outer s H vs E ds R hr d0 h => ?_)
  obtain ⟨W, rfl, hW, rfl⟩ := h
  obtain ⟨v1, rfl, d1⟩ := one_of d0

  refine rb_cons (rs_expr (ev_call C_must_web (hr.mono (by decide)) (by rfl) (ea_cons (ed_var 0 rfl d1) ea_nil) ⟨W, rfl, hW, rfl⟩) fun _ H1 s1 _ => ?_)

  exact rb_one (rs_ret (ed_lenL (l := fewCrowds W) hB (by rfl) (ev_call C_few_crowds (hr.mono (by decide)) (by rfl) (ea_cons (ed_var 0 rfl (dp_same s1 d1)) ea_nil) ⟨W, rfl, hW, rfl⟩)) fun v H3 s3 d => ⟨s1.trans s3, d⟩)
def p_first_crowds (K : PySem.W.Frag) : List PyData → (V → Hp → Prop) → Prop := fun ds R => ∃ (W : Wb), ds = [Datum.toD W] ∧ VW W ∧ R = Gv K (fewCrowds W)
abbrev N57 : List Str := [("web" : Str)]
theorem sc57 : FnScope [("web" : Str)] [("web" : Str)] (defScope (top 57)) := ⟨rfl, rfl, rfl, by decide +kernel, rfl, by decide +kernel, by decide +kernel⟩
theorem ok_first_crowds (F : FD K "first_crowds" 57 f fd) (hm : mg "first_crowds" = some (.ref f)) (hB : Bls mg) (C_must_web : Cal P w K mg base "must_web" 5 (SpD K (p_must_web K))) (C_few_crowds : Cal P w K mg base "few_crowds" 3 (SpD K (p_few_crowds K))) : Cal P w K mg base "first_crowds" 6 (SpD K (p_first_crowds K)) := by
  refine cal_of F sc57 hm (fun _ _ _ _ _ _ us hl => match us, hl with | [_], _ => rfl) (fun ds R h => by obtain ⟨W, rfl, hW, rfl⟩ := h; rfl) (fun cdv A outer s H vs E ds R hr d0 h => ?_)
  obtain ⟨W, rfl, hW, rfl⟩ := h
  obtain ⟨v1, rfl, d1⟩ := one_of d0

  refine rb_cons (rs_expr (ev_call C_must_web (hr.mono (by decide)) (by rfl) (ea_cons (ed_var 0 rfl d1) ea_nil) ⟨W, rfl, hW, rfl⟩) fun _ H1 s1 _ => ?_)

  exact rb_one (rs_ret (ev_call C_few_crowds (hr.mono (by decide)) (by rfl) (ea_cons (ed_var 0 rfl (dp_same s1 d1)) ea_nil) ⟨W, rfl, hW, rfl⟩) fun v H3 s3 d => ⟨s1.trans s3, d⟩)
def p_crowd_family (K : PySem.W.Frag) : List PyData → (V → Hp → Prop) → Prop := fun ds R => ∃ (W : Wb) (c : List Sm), ds = [Datum.toD W, Datum.toD c] ∧ VW W ∧ CrowdsV W c ∧ R = Gv K (crowdFamily c)
abbrev N58 : List Str := [("web" : Str), ("crowds" : Str), ("found" : Str), ("some" : Str), ("more" : Str), ("one" : Str), ("place" : Str)]
theorem sc58 : FnScope [("web" : Str), ("crowds" : Str), ("found" : Str), ("some" : Str), ("more" : Str), ("one" : Str), ("place" : Str)] [("web" : Str), ("crowds" : Str)] (defScope (top 58)) := ⟨rfl, rfl, rfl, by decide +kernel, rfl, by decide +kernel, by decide +kernel⟩
theorem ok_crowd_family (F : FD K "crowd_family" 58 f fd) (hm : mg "crowd_family" = some (.ref f)) (hB : Bls mg) (C_must_web : Cal P w K mg base "must_web" 5 (SpD K (p_must_web K))) (C_crowds_good : Cal P w K mg base "crowds_good" 5 (SpD K (p_crowds_good K))) : Cal P w K mg base "crowd_family" 6 (SpD K (p_crowd_family K)) := by
  refine cal_of F sc58 hm (fun _ _ _ _ _ _ us hl => match us, hl with | [_, _], _ => rfl) (fun ds R h => by obtain ⟨W, c, rfl, hW, hc, rfl⟩ := h; rfl) (fun cdv A outer s H vs E ds R hr d0 h => ?_)
  obtain ⟨W, c, rfl, hW, hc, rfl⟩ := h
  obtain ⟨v1, v2, rfl, d1, d2⟩ := two_of d0

  have hl := hc.len
  have h8 := hW.2.1
  refine rb_cons (rs_expr (ev_call C_must_web (hr.mono (by decide)) (by rfl) (ea_cons (ed_var 0 rfl d1) ea_nil) ⟨W, rfl, hW, rfl⟩) fun _ H1 s1 _ => ?_)
  replace d1 := dp_same s1 d1
  replace d2 := dp_same s1 d2
  refine rb_cons (rs_ifF (et_not (k := true) (et_val (ev_call C_crowds_good (hr.mono (by decide)) (by rfl) (ea_cons (ed_var 0 rfl d1) (ea_cons (ed_var 1 rfl d2) ea_nil)) ⟨W, c, rfl, hW, hc, rfl⟩))) fun H2 s2 => rb_nil ?_)
  replace d1 := dp_same s2 d1
  replace d2 := dp_same s2 d2
  refine rb_cons (rs_set 2 sc58.nd (ed_lst (xs := [(⟨[]⟩ : Sm)]) (ea_cons (ed_tup (α := Nat) (xs := []) ea_nil rfl (by decide)) ea_nil) rfl (by decide)) fun vf H3 s3 df => ?_)
  refine rb_cons (rs_forL (j := 3) (xs := c) PassesOwn.never rfl (ed_var 1 rfl (dp_same s3 d2)) (pg_name (i := 3) sc58.nd rfl (Or.inl rfl)) fun v H4 s4 dv => ⟨H4, fun i σ' H' => Same H4 H' ∧ ∃ vf a b e g, σ' = [some v1, some v2, some vf, a, b, e, g] ∧ DD K H' vf (crossed (c.take i)), dv, ⟨Same.refl _, vf, none, none, none, none, rfl, dp_same s4 df⟩, fun i σ' H' q => q.1, ?_, ?_⟩)
  · rintro i t u σ' H' ht ⟨s5, vf, a, b, e, g, rfl, df⟩ du
    have htm := List.mem_of_getElem? ht
    have hil := (List.getElem?_eq_some_iff.mp ht).1
    have tl := (hc.vs t htm).1.len
    have hlen1 := crossed_256 hc hW i (by omega)
    have hlen2 := crossed_256 hc hW (i + 1) (by omega)
    rw [crossed_take ht] at hlen2
    have hits := crossed_items c i (by omega)
    refine rb_cons (rs_set 4 sc58.nd (ed_lst (xs := ([] : List Sm)) ea_nil rfl (by decide)) fun vm H6 s6 dm => ?_)
    refine rb_cons (rs_forL (j := 5) (xs := crossed (c.take i)) PassesOwn.never rfl (ed_var 2 rfl (dp_same s6 df)) (pg_name (i := 5) sc58.nd rfl (Or.inr rfl)) fun v H7 s7 dv => ⟨H7, fun k σ' H' => Same H7 H' ∧ ∃ vm e g, σ' = [some v1, some v2, some vf, some u, some vm, e, g] ∧ DD K H' vm (((crossed (c.take i)).take k).flatMap fun one => t.items.map fun p => (⟨one.items ++ [p]⟩ : Sm)), dv, ⟨Same.refl _, vm, _, _, rfl, dp_same s7 dm⟩, fun i σ' H' q => q.1, ?_, ?_⟩)
    · rintro k one uo σ' H8 ho ⟨s8, vm, e, g, rfl, dm⟩ duo
      have hb := flatMap_take_le (crossed (c.take i)) (fun one => t.items.map fun p => (⟨one.items ++ [p]⟩ : Sm)) k
      have hol := hits one (List.mem_of_getElem? ho)
      have du8 := dp_same ((s6.trans s7).trans s8) du
      refine rb_one (rs_set 4 sc58.nd (ed_catL (u := t.items.map fun p => (⟨one.items ++ [p]⟩ : Sm)) (ed_var 4 rfl dm) (ed_is (ed_ofEL (el_of (el_lcT (j := 6) (xs := t) (f := fun p => (⟨one.items ++ [p]⟩ : Sm)) (gs := fun _ => true) rfl sc58.nd (blkOk_by (N := N58) (sc := defScope (top 58)) (by decide +kernel)) (ed_var 3 rfl du8) (by omega) ?_ ?_ (fun _ _ _ _ _ => pg_name (i := 6) sc58.nd rfl (Or.inl rfl))))) (by rw [filter_tt])) ?_) fun w H9 s9 dw => ⟨s8.trans s9, w, _, _, rfl, ?_⟩)
      · intro x v H1 s' H0 C cl fp hx sm dv
        exact ets_nil
      · intro x v H1 s' H0 C cl fp hx _ sm dv
        refine ee_of (ed_catT (t := one) (u := ⟨[x]⟩) (ed_var 5 rfl (dp_same sm duo)) (ed_tup (xs := [x]) (ea_cons (ed_var (x := x) 6 rfl dv) ea_nil) rfl (show 1 ≤ 1000 by decide)) ?_)
        show one.items.length + 1 ≤ 1000
        omega
      · refine Nat.le_trans (?_ : _ ≤ 1000) (by decide)
        rw [List.length_map]
        omega
      · rw [take_succ_at ho, List.flatMap_append, List.flatMap_singleton]
        exact dw
    · rintro σ' H8 ⟨s8, vm, e, g, rfl, dm⟩
      rw [List.take_length, ← crossed_take ht] at dm
      exact rb_one (rs_set 2 sc58.nd (ed_var (x := crossed (c.take (i + 1))) 4 rfl dm) fun w H9 s9 dw => ⟨(((s5.trans s6).trans s7).trans s8).trans s9, w, _, _, _, _, rfl, dw⟩)
  · rintro σ' H' ⟨s5, vf, a, b, e, g, rfl, df⟩
    have hlen := crossed_256 hc hW c.length (Nat.le_refl _)
    have hits := crossed_items c c.length (Nat.le_refl _)
    rw [List.take_length] at df hlen hits
    refine rb_one (rs_ret (ed_sorted (δ := Sm) (l := (crossed c).map fun one : Sm => sortS one.items) (by decide) (u128 hr) hB (by rfl) (ed_is (ed_ofEL (el_of (el_lcL (j := 5) (xs := crossed c) (f := fun one : Sm => sortS one.items) (gs := fun _ => true) rfl sc58.nd (blkOk_by (N := N58) (sc := defScope (top 58)) (by decide +kernel)) (ed_var 2 rfl df) (by omega) ?_ ?_ (fun _ _ _ _ _ => pg_name (i := 5) sc58.nd rfl (Or.inl rfl))))) (by rw [filter_tt])) (srt_ne fun s hs => ?_)) fun w H6 s6 d => ⟨((((s1.trans s2).trans s3).trans s4).trans s5).trans s6, d⟩)
    · intro x v H1 s' H0 C cl fp hx sm dv
      exact ets_nil
    · intro x v H1 s' H0 C cl fp hx _ sm dv
      exact ee_of (ed_tupleL hB (by rfl) (ed_sortedT (δ := Nat) (l := x) (by decide) (u128 hr) hB (by rfl) (ed_var 5 rfl dv) (ints_ok _)))
    · obtain ⟨one, ho, rfl⟩ := List.mem_map.mp hs
      intro e
      have h1 := hits one ho
      have h2 := congrArg List.length e
      rw [sortS_len] at h2
      have h3 := List.length_pos_iff.mpr (hc.ne hW)
      have h4 : one.items.length = 0 := h2
      omega
end
end GF
set_option Elab.async false
set_option linter.all false
set_option maxRecDepth 100000
set_option maxHeartbeats 4000000
namespace GF
open PySem PySem.Spec PySem.W PyProof.Rows L2
section
variable {P : Program} {w : World} {K : PySem.W.Frag} {mg : Str → Option Value} {base : Heap} {f : Addr} {fd : FuncData}
theorem rs_imp {X : Cx} {st : Stmt} {D D' : Ends} {σ : L2.St} {H : Hp} (h : RS X st D σ H) (h1 : ∀ σ H, D.nx σ H → D'.nx σ H) (h2 : ∀ v H, D.rt v H → D'.rt v H) (h3 : ∀ σ H, D.bk σ H → D'.bk σ H) (h4 : ∀ σ H, D.ct σ H → D'.ct σ H) : RS X st D' σ H := fun pins s I => thn (h pins s I) fun f s' q => by
  cases f with
  | next => obtain ⟨σ', H', I', q⟩ := q; exact ⟨σ', H', I', h1 _ _ q⟩
  | brk => obtain ⟨σ', H', I', q⟩ := q; exact ⟨σ', H', I', h3 _ _ q⟩
  | cont => obtain ⟨σ', H', I', q⟩ := q; exact ⟨σ', H', I', h4 _ _ q⟩
  | ret u => obtain ⟨v, σ', H', I', r, q⟩ := q; exact ⟨v, σ', H', I', r, h2 _ _ q⟩
theorem rb_step {X : Cx} {st : Stmt} {sts : List Stmt} {D : Ends} {σ : L2.St} {H : Hp} (Post : L2.St → Hp → Prop) (h : RS X st { D with nx := Post } σ H) (k : ∀ σ' H', Post σ' H' → RB X sts D σ' H') : RB X (st :: sts) D σ H :=
  rb_cons (rs_imp h (fun σ' H' p => k σ' H' p) (fun _ _ q => q) (fun _ _ q => q) fun _ _ q => q)
theorem ed_toNat {X : Cx} {e : Expr} {σ : L2.St} {H : Hp} {i : Int} (h : ED X e σ H i) (hi : 0 ≤ i) : ED X e σ H i.toNat := by
  obtain ⟨n, rfl⟩ := Int.eq_ofNat_of_zero_le hi
  exact h
def stir (c k : Int) : Int := (((((((c.fmod 2147483647 + 977 * k + 1) * 48271).fmod 2147483647) * (((c.fmod 2147483647 + 977 * k + 1) * 48271).fmod 2147483647)).fmod 2147483629) + 40692 * (k + 3)) * 69621).fmod 2147483647 |>.fdiv 8
theorem fmodM (i : Int) {m : Int} (h : 0 < m) : 0 ≤ i.fmod m ∧ i.fmod m < m := ⟨Int.fmod_nonneg_of_pos i h, Int.fmod_lt_of_pos i h⟩
def lawSome (n : Nat) (m : Int) : Sm := ⟨(List.range n).filter fun p => decide (Builtin.bitAnd (m / 2 ^ (p : Int).toNat) 1 = 1)⟩
theorem lawSome_VS (n : Nat) (m : Int) : VS n (lawSome n m) := ⟨List.Pairwise.filter _ List.pairwise_lt_range, fun x hx => List.mem_range.mp (List.mem_filter.mp hx).1⟩
theorem srt_pairs (l : List (Nat × Nat)) : SrtOk l := .inl (Sortable.tuples fun b => ⟨_, _, rfl⟩)
theorem pair_lt {p q : Nat × Nat} : DatumOrd.lt p q = if p.1 = q.1 then decide (p.2 < q.2) else decide (p.1 < q.1) := rfl
theorem leD_pair {p q : Nat × Nat} : leD p q = true ↔ p.1 < q.1 ∨ (p.1 = q.1 ∧ p.2 ≤ q.2) := by
  unfold leD
  rw [pair_lt]
  by_cases h : q.1 = p.1
  · rw [if_pos h]
    simp
    omega
  · rw [if_neg h]
    simp
    omega
/-- the ties sorted: a web -/
theorem VW_of {n : Nat} {l : List (Nat × Nat)} (h1 : 1 ≤ n) (h8 : n ≤ 8) (hl : ∀ q ∈ l, q.1 < q.2 ∧ q.2 < n) (hn : l.Nodup) : VW (n, ⟨l.mergeSort leD⟩) := by
  refine ⟨h1, h8, fun q hq => hl q (List.mem_mergeSort.mp hq), ?_⟩
  have tr : ∀ a b c : Nat × Nat, leD a b = true → leD b c = true → leD a c = true := fun a b c x y => by
    rw [leD_pair] at *
    omega
  have tot : ∀ a b : Nat × Nat, (leD a b || leD b a) = true := fun a b => by
    rw [Bool.or_eq_true, leD_pair, leD_pair]
    omega
  have s := List.pairwise_mergeSort tr tot l
  have nd : (l.mergeSort leD).Nodup := (List.mergeSort_perm l leD).nodup_iff.mpr hn
  refine (s.and nd).imp fun {a b} h => ?_
  obtain ⟨h1, h2⟩ := h
  rw [leD_pair] at h1
  rw [pair_lt]
  by_cases e : a.1 = b.1
  · rw [if_pos e]
    have : a.2 ≠ b.2 := fun e2 => h2 (Prod.ext e e2)
    exact decide_eq_true (by omega)
  · rw [if_neg e]
    exact decide_eq_true (by omega)
def p__law_cell_at (K : PySem.W.Frag) : List PyData → (V → Hp → Prop) → Prop := fun ds R => ∃ (l : List Int) (k : Nat), ds = [Datum.toD l, Datum.toD k] ∧ R = Gv K (l.getD k 0)
abbrev N63 : List Str := [("_law_script" : Str), ("_law_k" : Str)]
theorem sc63 : FnScope [("_law_script" : Str), ("_law_k" : Str)] [("_law_script" : Str), ("_law_k" : Str)] (defScope (top 63)) := ⟨rfl, rfl, rfl, by decide +kernel, rfl, by decide +kernel, by decide +kernel⟩
theorem ok__law_cell_at (F : FD K "_law_cell_at" 63 f fd) (hm : mg "_law_cell_at" = some (.ref f)) (hB : Bls mg)  : Cal P w K mg base "_law_cell_at" 1 (SpD K (p__law_cell_at K)) := by
  refine cal_of F sc63 hm (fun _ _ _ _ _ _ us hl => match us, hl with | [_, _], _ => rfl) (fun ds R h => by obtain ⟨l, k, rfl, rfl⟩ := h; rfl) (fun cdv A outer s H vs E ds R hr d0 h => ?_)
  obtain ⟨l, k, rfl, rfl⟩ := h
  obtain ⟨v1, v2, rfl, d1, d2⟩ := two_of d0

  refine rb_cons (rs_if (k := decide ((k : Int) < (l.length : Int))) (et_cmp (ec_lt (ed_var 1 rfl d2) (ed_lenL hB (by rfl) (ed_var 0 rfl d1)))) (fun hk H1 s1 => ?_) fun hk H1 s1 => rb_nil ?_)
  · have hk' := of_decide_eq_true hk
    have h : l[k]? = some (l.getD k 0) := by
      have : k < l.length := by omega
      rw [List.getElem?_eq_getElem this]
      simp [List.getD, this]
    exact rb_one (rs_ret (ed_ixL (l := l) (i := k) (ed_var 0 rfl (dp_same s1 d1)) (ed_var 1 rfl (dp_same s1 d2)) h) fun v H2 s2 d => ⟨s1.trans s2, d⟩)
  · have hk' := of_decide_eq_false hk
    have h : l.getD k 0 = 0 := by
      have : l.length ≤ k := by omega
      simp [List.getD, List.getElem?_eq_none this]
    rw [h]
    exact rb_one (rs_ret ed_int fun v H2 s2 d => ⟨s1.trans s2, d⟩)
def p__law_stir (K : PySem.W.Frag) : List PyData → (V → Hp → Prop) → Prop := fun ds R => ∃ (c k : Int), ds = [Datum.toD c, Datum.toD k] ∧ R = Gv K (stir c k)
abbrev N64 : List Str := [("_law_cell" : Str), ("_law_k" : Str), ("_law_number" : Str)]
theorem sc64 : FnScope [("_law_cell" : Str), ("_law_k" : Str), ("_law_number" : Str)] [("_law_cell" : Str), ("_law_k" : Str)] (defScope (top 64)) := ⟨rfl, rfl, rfl, by decide +kernel, rfl, by decide +kernel, by decide +kernel⟩
theorem ok__law_stir (F : FD K "_law_stir" 64 f fd) (hm : mg "_law_stir" = some (.ref f)) (hB : Bls mg)  : Cal P w K mg base "_law_stir" 1 (SpD K (p__law_stir K)) := by
  refine cal_of F sc64 hm (fun _ _ _ _ _ _ us hl => match us, hl with | [_, _], _ => rfl) (fun ds R h => by obtain ⟨c, k, rfl, rfl⟩ := h; rfl) (fun cdv A outer s H vs E ds R hr d0 h => ?_)
  obtain ⟨c, k, rfl, rfl⟩ := h
  obtain ⟨v1, v2, rfl, d1, d2⟩ := two_of d0

  have m0 : ∀ i : Int, 0 ≤ i.fmod 2147483647 ∧ i.fmod 2147483647 < 2147483647 := fun i => fmodM i (by decide)
  refine rb_cons (rs_set 2 sc64.nd (ed_mod (ed_mul (ed_add (ed_add (ed_mod (ed_var 0 rfl d1) ed_int (by decide)) (ed_mul ed_int (ed_var 1 rfl d2) (.inl (by decide)))) ed_int) ed_int (.inr (by decide))) ed_int (by decide)) fun vn H1 s1 dn => ?_)
  have m1 := m0 ((c.fmod 2147483647 + 977 * k + 1) * 48271)
  refine rb_cons (rs_set 2 sc64.nd (ed_mod (ed_mul (ed_var 2 rfl dn) (ed_var 2 rfl dn) (.inl ⟨by omega, by omega⟩)) ed_int (by decide)) fun vn2 H2 s2 dn2 => ?_)
  refine rb_cons (rs_set 2 sc64.nd (ed_mod (ed_mul (ed_add (ed_var 2 rfl dn2) (ed_mul ed_int (ed_add (ed_var 1 rfl (dp_same (s1.trans s2) d2)) ed_int) (.inl (by decide)))) ed_int (.inr (by decide))) ed_int (by decide)) fun vn3 H3 s3 dn3 => ?_)
  exact rb_one (rs_ret (ed_fdiv (ed_var 2 rfl dn3) ed_int ⟨by decide, by decide⟩) fun v H4 s4 d => ⟨((s1.trans s2).trans s3).trans s4, d⟩)
def p__law_some (K : PySem.W.Frag) : List PyData → (V → Hp → Prop) → Prop := fun ds R => ∃ (n : Nat) (m : Int), ds = [Datum.toD n, Datum.toD m] ∧ n ≤ 8 ∧ R = Gv K (lawSome n m)
abbrev N66 : List Str := [("_law_many" : Str), ("_law_mask" : Str), ("_law_place" : Str)]
theorem sc66 : FnScope [("_law_many" : Str), ("_law_mask" : Str), ("_law_place" : Str)] [("_law_many" : Str), ("_law_mask" : Str)] (defScope (top 66)) := ⟨rfl, rfl, rfl, by decide +kernel, rfl, by decide +kernel, by decide +kernel⟩
theorem ok__law_some (F : FD K "_law_some" 66 f fd) (hm : mg "_law_some" = some (.ref f)) (hB : Bls mg)  : Cal P w K mg base "_law_some" 1 (SpD K (p__law_some K)) := by
  refine cal_of F sc66 hm (fun _ _ _ _ _ _ us hl => match us, hl with | [_, _], _ => rfl) (fun ds R h => by obtain ⟨n, m, rfl, hn, rfl⟩ := h; rfl) (fun cdv A outer s H vs E ds R hr d0 h => ?_)
  obtain ⟨n, m, rfl, hn, rfl⟩ := h
  obtain ⟨v1, v2, rfl, d1, d2⟩ := two_of d0

  refine rb_one (rs_ret (ed_tupleL hB (by rfl) (ed_is (ed_ofEL (el_of (el_lcR (j := 2) (n := n) (f := fun o => o) (gs := fun p => decide (Builtin.bitAnd (m / 2 ^ (p : Int).toNat) 1 = 1)) rfl sc66.nd hB (by rfl) (blkOk_by (N := N66) (sc := defScope (top 66)) (by decide +kernel)) (ed_var 0 rfl d1) (by omega) ?_ ?_ (fun _ _ _ _ _ => pg_name (i := 2) sc66.nd rfl (Or.inl rfl))))) (map_same _))) fun v H1 s d => ⟨s, d⟩)
  · intro x v H1 s' H0 C cl fp hx sm dv
    exact ets_one (et_cmp (ec_eq (α := Int) (by decide) (u64 hr) (ed_band (ed_shr (i := m) (j := (x : Int)) (ed_var 1 rfl (dp_same sm d2)) (ed_var 2 rfl dv) (by omega)) ed_int) ed_int))
  · intro x v H1 s' H0 C cl fp hx _ sm dv
    exact ee_of (ed_var 2 rfl dv)
def p__law_web (K : PySem.W.Frag) : List PyData → (V → Hp → Prop) → Prop := fun ds R => ∃ (c : Int) (m : Nat), ds = [Datum.toD c, Datum.toD m] ∧ 1 ≤ m ∧ m ≤ 8 ∧ R = fun v H => ∃ W : Wb, VW W ∧ DD K H v W
abbrev N65 : List Str := [("_law_cell" : Str), ("_law_most" : Str), ("_law_many" : Str), ("_law_left" : Str), ("_law_way" : Str), ("_law_ties" : Str), ("_law_b" : Str), ("_law_a" : Str), ("_law_drawn" : Str), ("_law_rows" : Str)]
theorem sc65 : FnScope [("_law_cell" : Str), ("_law_most" : Str), ("_law_many" : Str), ("_law_left" : Str), ("_law_way" : Str), ("_law_ties" : Str), ("_law_b" : Str), ("_law_a" : Str), ("_law_drawn" : Str), ("_law_rows" : Str)] [("_law_cell" : Str), ("_law_most" : Str)] (defScope (top 65)) := ⟨rfl, rfl, rfl, by decide +kernel, rfl, by decide +kernel, by decide +kernel⟩
theorem ok__law_web (F : FD K "_law_web" 65 f fd) (hm : mg "_law_web" = some (.ref f)) (hB : Bls mg) (C__law_stir : Cal P w K mg base "_law_stir" 1 (SpD K (p__law_stir K))) : Cal P w K mg base "_law_web" 2 (SpD K (p__law_web K)) := by
  refine cal_of F sc65 hm (fun _ _ _ _ _ _ us hl => match us, hl with | [_, _], _ => rfl) (fun ds R h => by obtain ⟨c, m, rfl, hm1, hm8, rfl⟩ := h; rfl) (fun cdv A outer s H vs E ds R hr d0 h => ?_)
  obtain ⟨c, m, rfl, hm1, hm8, rfl⟩ := h
  obtain ⟨v1, v2, rfl, d1, d2⟩ := two_of d0

  have mb := fmodM c (m := (m : Int)) (by omega)
  obtain ⟨n, hn⟩ : ∃ n : Nat, 1 + c.fmod (m : Int) = (n : Int) := ⟨(1 + c.fmod (m : Int)).toNat, by omega⟩
  have hn1 : 1 ≤ n := by omega
  have hn8 : n ≤ 8 := by omega
  refine rb_cons (rs_set 2 sc65.nd (ed_is (ed_add (i := 1) (j := c.fmod (m : Int)) ed_int (ed_mod (ed_var 0 rfl d1) (ed_var 1 rfl d2) (by omega))) hn) fun vn H1 s1 dn => ?_)
  rw [dd_int dn]
  refine rb_cons (rs_set 3 sc65.nd (ed_fdiv (i := c) (j := (m : Int)) (ed_var 0 rfl (dp_same s1 d1)) (ed_var 1 rfl (dp_same s1 d2)) ⟨by omega, by omega⟩) fun vl H2 s2 dl => ?_)
  rw [dd_int dl]
  generalize hL : c.fdiv (m : Int) = L
  refine rb_cons (rs_set 4 sc65.nd (ed_mod (i := L) (j := 6) (ed_var 3 rfl (.int _)) ed_int (by decide)) fun vw H3 s3 dw => ?_)
  rw [dd_int dw]
  generalize hWy : L.fmod 6 = y
  refine rb_cons (rs_setL 5 sc65.nd el_nil fun l xs H4 hl s4 hl4 hxs => ?_)
  subst hxs
  replace s4 := ((s1.trans s2).trans s3).trans s4
  have hlH : H l = none := by
    cases e : H l with
    | none => rfl
    | some o =>
      have := ((s1.trans s2).trans s3) l o e
      rw [hl] at this
      cases this
  refine rb_cons (rs_forR2 (j := 6) (m := 1) (n := n) PassesOwn.never rfl hB (by rfl) (ed_nat 1) (ed_var (x := n) 2 rfl (.int _)) (by decide) (by omega) (pg_name (i := 6) sc65.nd rfl (Or.inl rfl))
    (fun i σ' H' => Same H H' ∧ (∃ b a d r, σ' = [some v1, some v2, some (.int (n : Int)), some (.int L), some (.int y), some (.ref l), b, a, d, r]) ∧ ∃ ys T, H' l = some (.lst ys) ∧ DDs K (hid H' l) ys (T : List (Nat × Nat)) ∧ T.Nodup ∧ T.length ≤ i * 8 ∧ ∀ q ∈ T, q.1 < q.2 ∧ q.2 < 1 + i)
    (fun H5 s5 => ⟨s4.trans s5, ⟨_, _, _, _, rfl⟩, [], [], s5 l _ hl4, .nil, List.nodup_nil, Nat.zero_le _, fun q hq => by cases hq⟩) ?_ ?_)
  · rintro i σ' H5 hi ⟨s5, ⟨b, a, d, r, rfl⟩, ys, T, hys, dys, hnd, hTl, hT⟩
    refine rb_one (rs_forR (j := 7) (n := 1 + i) PassesOwn.never rfl hB (by rfl) (ed_var (x := 1 + i) 6 rfl (.int _)) (by omega) (pg_name (i := 7) sc65.nd rfl (Or.inl rfl))
      (fun k σ' H' => Same H H' ∧ (∃ a d r, σ' = [some v1, some v2, some (.int (n : Int)), some (.int L), some (.int y), some (.ref l), some (.int ((1 + i : Nat) : Int)), a, d, r]) ∧ ∃ ys T, H' l = some (.lst ys) ∧ DDs K (hid H' l) ys (T : List (Nat × Nat)) ∧ T.Nodup ∧ T.length ≤ i * 8 + k ∧ ∀ q ∈ T, q.1 < q.2 ∧ (q.2 < 1 + i ∨ (q.2 = 1 + i ∧ q.1 < k)))
      (fun H6 s6 => ⟨s5.trans s6, ⟨_, _, _, rfl⟩, ys, T, s6 l _ hys, dps_same (hid_mono s6) dys, hnd, hTl, fun q hq => ⟨(hT q hq).1, .inl (hT q hq).2⟩⟩) ?_ ?_)
    · rintro k σ' H6 hk ⟨s6, ⟨a, d, r, rfl⟩, ys, T, hys, dys, hnd, hTl, hT⟩
      let Post : L2.St → Hp → Prop := fun σ' H' => Same H6 H' ∧ ∃ d : Int, ∃ r : Option V, σ' = [some v1, some v2, some (.int (n : Int)), some (.int L), some (.int y), some (.ref l), some (.int ((1 + i : Nat) : Int)), some (.int (k : Int)), some (.int d), r]
      refine rb_step Post (rs_set 8 sc65.nd (ed_band (ed_shr (j := ((1 + i : Nat) : Int) * (((1 + i : Nat) : Int) - 1) |>.fdiv 2 |> (· + (k : Int))) (ed_fdiv (ed_var (x := L) 3 rfl (.int _)) ed_int ⟨by decide, by decide⟩) (ed_add (ed_fdiv (ed_mul (ed_var (x := ((1 + i : Nat) : Int)) 6 rfl (.int _)) (ed_sub (ed_var (x := ((1 + i : Nat) : Int)) 6 rfl (.int _)) ed_int) (.inl ⟨by omega, by omega⟩)) ed_int ⟨by decide, by decide⟩) (ed_var (x := (k : Int)) 7 rfl (.int _))) ?_) ed_int) fun vd H7 s7 dd => by have e := dd_int dd; subst e; exact ⟨s7, _, _, rfl⟩) ?_
      · have e : (((1 + i : Nat) : Int) * (((1 + i : Nat) : Int) - 1)) = (((1 + i) * i : Nat) : Int) := by
          have : (((1 + i : Nat) : Int) - 1) = (i : Int) := by omega
          rw [this]
          exact (Int.natCast_mul _ _).symm
        have h0 : 0 ≤ (((1 + i : Nat) : Int) * (((1 + i : Nat) : Int) - 1)).fdiv 2 := by
          rw [e]
          exact Int.fdiv_nonneg (Int.natCast_nonneg _) (by decide)
        show 0 ≤ (((1 + i : Nat) : Int) * (((1 + i : Nat) : Int) - 1)).fdiv 2 + (k : Int)
        omega
      rintro σ' H7 ⟨s7, d, r, rfl⟩
      refine rb_step Post (rs_if (k := decide (y = 3)) (et_cmp (ec_eq (α := Int) (by decide) (u64 hr) (ed_var (x := y) 4 rfl (.int _)) ed_int)) (fun _ H8 s8 => rb_one (rs_set 8 sc65.nd (ed_fdiv (ed_mod (ev_call C__law_stir (hr.mono (by decide)) (by rfl) (ea_cons (ed_var 0 rfl (dp_same ((s6.trans s7).trans s8) d1)) (ea_cons (ed_add (ed_mul ed_int (ed_var (x := (k : Int)) 7 rfl (.int _)) (.inl (by decide))) (ed_var (x := ((1 + i : Nat) : Int)) 6 rfl (.int _))) ea_nil)) ⟨c, _, rfl, rfl⟩) ed_int (by decide)) ed_int ⟨by decide, by decide⟩) fun vd H9 s9 dd => by have e := dd_int dd; subst e; exact ⟨(s7.trans s8).trans s9, _, _, rfl⟩)) fun _ H8 s8 => rb_nil ⟨s7.trans s8, _, _, rfl⟩) ?_
      rintro σ' H8 ⟨s8, d, r, rfl⟩
      refine rb_step Post (rs_if (k := decide (y = 4)) (et_cmp (ec_eq (α := Int) (by decide) (u64 hr) (ed_var (x := y) 4 rfl (.int _)) ed_int)) (fun _ H9 s9 => rb_one (rs_set 8 sc65.nd (ed_fdiv (ed_add (ed_mod (ev_call C__law_stir (hr.mono (by decide)) (by rfl) (ea_cons (ed_var 0 rfl (dp_same ((s6.trans s8).trans s9) d1)) (ea_cons (ed_add (ed_mul ed_int (ed_var (x := (k : Int)) 7 rfl (.int _)) (.inl (by decide))) (ed_var (x := ((1 + i : Nat) : Int)) 6 rfl (.int _))) ea_nil)) ⟨c, _, rfl, rfl⟩) ed_int (by decide)) ed_int) ed_int ⟨by decide, by decide⟩) fun vd Ha sa dd => by have e := dd_int dd; subst e; exact ⟨(s8.trans s9).trans sa, _, _, rfl⟩)) fun _ H9 s9 => rb_nil ⟨s8.trans s9, _, _, rfl⟩) ?_
      rintro σ' H9 ⟨s9, d, r, rfl⟩
      refine rb_step Post (rs_if (k := decide (y = 5)) (et_cmp (ec_eq (α := Int) (by decide) (u64 hr) (ed_var (x := y) 4 rfl (.int _)) ed_int)) (fun _ Ha sa => ?_) fun _ Ha sa => rb_nil ⟨s9.trans sa, _, _, rfl⟩) ?_
      · refine rb_cons (rs_set 9 sc65.nd (ed_lst (α := Bool) (xs := [decide (((1 + i : Nat) : Int) = (k : Int) + 1), decide (((1 + i : Nat) : Int) = (k : Int) + 1) || decide (((1 + i : Nat) : Int) - (k : Int) = (n : Int) - 1), decide ((k : Int) = 0), true, decide (((1 + i : Nat) : Int) = (k : Int) + 1) && decide ((k : Int).fmod 3 < 2)]) (ea_cons (ed_cmp (ec_eq (α := Int) (by decide) (u64 hr) (ed_var (x := ((1 + i : Nat) : Int)) 6 rfl (.int _)) (ed_add (ed_var (x := (k : Int)) 7 rfl (.int _)) ed_int)))
          (ea_cons (ed_or (ed_cmp (ec_eq (α := Int) (by decide) (u64 hr) (ed_var (x := ((1 + i : Nat) : Int)) 6 rfl (.int _)) (ed_add (ed_var (x := (k : Int)) 7 rfl (.int _)) ed_int))) fun _ => ed_one (ed_cmp (ec_eq (α := Int) (by decide) (u64 hr) (ed_sub (ed_var (x := ((1 + i : Nat) : Int)) 6 rfl (.int _)) (ed_var (x := (k : Int)) 7 rfl (.int _))) (ed_sub (ed_var (x := (n : Int)) 2 rfl (.int _)) ed_int))))
          (ea_cons (ed_cmp (ec_eq (α := Int) (by decide) (u64 hr) (ed_var (x := (k : Int)) 7 rfl (.int _)) ed_int)) (ea_cons ed_bl
          (ea_cons (ed_and (ed_cmp (ec_eq (α := Int) (by decide) (u64 hr) (ed_var (x := ((1 + i : Nat) : Int)) 6 rfl (.int _)) (ed_add (ed_var (x := (k : Int)) 7 rfl (.int _)) ed_int))) fun _ => ed_one (ed_cmp (ec_lt (ed_mod (ed_var (x := (k : Int)) 7 rfl (.int _)) ed_int (by decide)) ed_int))) ea_nil))))) rfl (show 5 ≤ 1000 by decide)) fun vr Hb sb dr => ?_)
        have m5 := fmodM (L.fdiv 6) (m := 5) (by decide)
        refine rb_one (rs_set 8 sc65.nd (ed_intB hB (by rfl) (ed_ixL (i := ((L.fdiv 6).fmod 5).toNat) (ed_var 9 rfl dr) (ed_toNat (ed_mod (ed_fdiv (ed_var (x := L) 3 rfl (.int _)) ed_int ⟨by decide, by decide⟩) ed_int (by decide)) m5.1) (List.getElem?_eq_getElem (show ((L.fdiv 6).fmod 5).toNat < 5 by omega)))) fun vd Hc scc dd => by have e := dd_int dd; subst e; exact ⟨((s9.trans sa).trans sb).trans scc, _, _, rfl⟩)
      rintro σ' Ha ⟨sa, d, r, rfl⟩
      refine rb_one (rs_if (k := decide (d = 1)) (et_cmp (ec_eq (α := Int) (by decide) (u64 hr) (ed_var (x := d) 8 rfl (.int _)) ed_int)) (fun _ Hb sb => ?_) fun _ Hb sb => rb_nil ⟨(s6.trans sa).trans sb, ⟨_, _, _, rfl⟩, ys, T, (sa.trans sb) l _ hys, dps_same (hid_mono (sa.trans sb)) dys, hnd, by omega, fun q hq => ⟨(hT q hq).1, by have := (hT q hq).2; omega⟩⟩)
      refine rb_one (rs_append (x := ((k, 1 + i) : Nat × Nat)) 5 rfl ((sa.trans sb) l _ hys) (ee_of (ed_pair (ed_var (x := k) 7 rfl (.int _)) (ed_var (x := 1 + i) 6 rfl (.int _)))) (by have := dds_length dys; omega) fun w Hc scc dw => ⟨same_mut (((s6.trans sa).trans sb).trans scc) hlH, ⟨_, _, _, rfl⟩, _, T ++ [(k, 1 + i)], upd_same, ?_, ?_, by simp; omega, fun q hq => ?_⟩)
      · rw [hid_upd]
        exact dds_append (dps_same (hid_mono ((sa.trans sb).trans scc)) dys) (dds_one dw)
      · rw [List.nodup_append]
        refine ⟨hnd, List.nodup_cons.mpr ⟨by simp, List.nodup_nil⟩, fun a ha b hb e => ?_⟩
        rw [List.mem_singleton] at hb
        subst hb
        subst e
        have := (hT _ ha).2
        simp at this
      · rcases List.mem_append.mp hq with hq | hq
        · exact ⟨(hT q hq).1, by have := (hT q hq).2; omega⟩
        · rw [List.mem_singleton.mp hq]
          exact ⟨by show k < 1 + i; omega, .inr ⟨rfl, Nat.lt_succ_self k⟩⟩
    · rintro σ' H6 ⟨s6, ⟨a, d, r, rfl⟩, ys, T, hys, dys, hnd, hTl, hT⟩
      exact ⟨s6, ⟨_, _, _, _, rfl⟩, ys, T, hys, dys, hnd, by omega, fun q hq => ⟨(hT q hq).1, by have := (hT q hq).2; have := (hT q hq).1; omega⟩⟩
  · rintro σ' H5 ⟨s5, ⟨b, a, d, r, rfl⟩, ys, T, hys, dys, hnd, hTl, hT⟩
    refine rb_one (rs_ret (ed_pair (x := n) (y := (Tup.mk (T.mergeSort leD) : Tup (Nat × Nat))) (ed_var (x := n) 2 rfl (.int _)) (ed_tupleL hB (by rfl) (ed_sorted (δ := Nat × Nat) (l := T) (by decide) (u128 hr) hB (by rfl) (ed_var 5 rfl (dd_ofL (SqL.of hys) (dps_same hid_same dys))) (srt_pairs T)))) fun v H6 s6 d => ⟨s5.trans s6, (n, ⟨T.mergeSort leD⟩), VW_of hn1 hn8 (fun q hq => ⟨(hT q hq).1, by have := (hT q hq).2; omega⟩) hnd, d⟩)
end
end GF
set_option Elab.async false
set_option linter.all false
set_option maxRecDepth 100000
set_option maxHeartbeats 4000000
namespace GF
open PySem PySem.Spec PySem.W PyProof.Rows L2
section
variable {P : Program} {w : World} {K : PySem.W.Frag} {mg : Str → Option Value} {base : Heap} {f : Addr} {fd : FuncData}
theorem ed_neg {X : Cx} {a : Expr} {σ : L2.St} {H : Hp} {pos : Pos} {i : Int} (ha : ED X a σ H i) : ED X (.UnaryOp .USub a pos) σ H (-i) :=
  ev_of (pe_un un_neg pe_re) fun H1 h Q q => ha H1 h _ fun v H2 s2 d => ⟨i, dd_int d, q _ H2 s2 (.int _)⟩
/-- what the law asks of a web, in plain words -/
structure LF (W : Wb) : Prop where
  le1 : fewest W ≤ fewestGuards W
  le2 : mostUntied W ≤ fewestGuards W
  le3 : fewestGuards W ≤ (fewCrowds W).length
  unt : VS W.1 (firstUntied W) ∧ untiedGood W (firstUntied W) = true
  crd : CrowdsV W (fewCrowds W)
  cfN : crowdFamily (fewCrowds W) ≠ []
  cfV : ∀ s ∈ crowdFamily (fewCrowds W), VS W.1 s
  cfP : (crowdFamily (fewCrowds W)).Pairwise fun s t => DatumOrd.lt s t = true
  cfA : ∀ s ∈ crowdFamily (fewCrowds W), answersIn W s (crowdFamily (fewCrowds W)) = true
  cfF : ∀ s ∈ crowdFamily (fewCrowds W), s ∈ fam W s.items.length
  f1 : fam W (fewestGuards W) = firstFam W
  f2 : fewestGuards W ≤ W.1
  f3 : firstFam W ≠ []
  f4 : ∀ s ∈ firstFam W, VS W.1 s ∧ s.items.length = fewestGuards W
  f5 : (firstFam W).Pairwise fun s t => DatumOrd.lt s t = true
  f6 : ∀ s ∈ firstFam W, answersIn W s (firstFam W) = true
  f7 : ∀ s ∈ firstFam W, daysM W s = none ∧ holdAll W s = true
  f8 : ∀ s ∈ firstFam W, ∀ p ∈ without W s, ∃ m, bestMove W s p = some m ∧ m ∈ movesOf W s p ∧ m ∈ firstFam W
  fl : (firstFam W).length ≤ 256
  b1 : ∀ s, VS W.1 s → daysM W s = none → s ∈ fam W s.items.length
  b2 : ∀ s d, VS W.1 s → daysM W s = some d → without W s ≠ [] ∧ holdAll W s = decide (0 < d) ∧ ∀ p, WorstR W s p → (d = 0 → bestMove W s p = none) ∧ (0 < d → ∃ m, bestMove W s p = some m ∧ VS W.1 m ∧ daysM W m = some (d - 1))
theorem crowdFamily_len {W : Wb} {c : List Sm} (h : CrowdsV W c) (hW : VW W) : (crowdFamily c).length ≤ 256 := by
  have := crossed_256 h hW c.length (Nat.le_refl _)
  rw [List.take_length] at this
  unfold crowdFamily
  rw [List.length_mergeSort, List.length_map]
  exact this
theorem without_lt {W : Wb} {s : Sm} {p : Nat} (h : p ∈ without W s) : p < W.1 ∧ p ∉ s.items := by
  obtain ⟨h1, h2⟩ := List.mem_filter.mp h
  exact ⟨List.mem_range.mp h1, of_decide_eq_true h2⟩
def treeW (n : Nat) (p : Nat → Nat) : Wb := (n, ⟨(((List.range (n - 1)).map (· + 1)).map fun b => (p b, b)).mergeSort leD⟩)
theorem tree_VW {n : Nat} {p : Nat → Nat} (h1 : 1 ≤ n) (h8 : n ≤ 8) (hp : ∀ b, 1 ≤ b → b < n → p b < b) : VW (treeW n p) := by
  refine VW_of h1 h8 (fun q hq => ?_) ?_
  · obtain ⟨b, hb, rfl⟩ := List.mem_map.mp hq
    obtain ⟨a, ha, rfl⟩ := List.mem_map.mp hb
    have := List.mem_range.mp ha
    exact ⟨hp (a + 1) (by omega) (by omega), by show a + 1 < n; omega⟩
  · rw [List.map_map]
    refine List.Pairwise.map _ (fun a b hne e => hne ?_) (List.nodup_range (n := n - 1))
    have := congrArg Prod.snd e
    simpa using this
def TF (W : Wb) : Prop := fewestGuards W = mostUntied W ∧ (fewCrowds W).length = mostUntied W
def p__law_kept (K : PySem.W.Frag) : List PyData → (V → Hp → Prop) → Prop := fun ds R => ∃ (W : Wb) (c : Int), ds = [Datum.toD W, Datum.toD c] ∧ VW W ∧ R = Gv K true
abbrev N67 : List Str := [("_law_web_here" : Str), ("_law_cell" : Str), ("_law_family" : Str), ("_law_some_here" : Str), ("_law_turn" : Str), ("_law_free" : Str), ("_law_place" : Str), ("_law_later" : Str)]
theorem sc67 : FnScope [("_law_web_here" : Str), ("_law_cell" : Str), ("_law_family" : Str), ("_law_some_here" : Str), ("_law_turn" : Str), ("_law_free" : Str), ("_law_place" : Str), ("_law_later" : Str)] [("_law_web_here" : Str), ("_law_cell" : Str)] (defScope (top 67)) := ⟨rfl, rfl, rfl, by decide +kernel, rfl, by decide +kernel, by decide +kernel⟩
theorem ok__law_kept (F : FD K "_law_kept" 67 f fd) (hm : mg "_law_kept" = some (.ref f)) (hB : Bls mg) (C_family_of : Cal P w K mg base "family_of" 6 (SpD K (p_family_of K))) (C_first_guards : Cal P w K mg base "first_guards" 6 (SpD K (p_first_guards K))) (C_fewest_guards : Cal P w K mg base "fewest_guards" 6 (SpD K (p_fewest_guards K))) (C_is_lasting : Cal P w K mg base "is_lasting" 6 (SpD K (p_is_lasting K))) (C_holds_all : Cal P w K mg base "holds_all" 6 (SpD K (p_holds_all K))) (C_best_move : Cal P w K mg base "best_move" 7 (SpD K (p_best_move K))) (C_days : Cal P w K mg base "days" 6 (SpD K (p_days K))) (C_moves : Cal P w K mg base "moves" 7 (SpD K (p_moves K))) (C__law_stir : Cal P w K mg base "_law_stir" 1 (SpD K (p__law_stir K))) (hLF : ∀ W, VW W → LF W) : Cal P w K mg base "_law_kept" 8 (SpD K (p__law_kept K)) := by
  refine cal_of F sc67 hm (fun _ _ _ _ _ _ us hl => match us, hl with | [_, _], _ => rfl) (fun ds R h => by obtain ⟨W, c, rfl, hW, rfl⟩ := h; rfl) (fun cdv A outer s H vs E ds R hr d0 h => ?_)
  obtain ⟨W, c, rfl, hW, rfl⟩ := h
  obtain ⟨v1, v2, rfl, d1, d2⟩ := two_of d0

  have L := hLF W hW
  have h8 := hW.2.1
  obtain ⟨x, r, hx⟩ := List.exists_cons_of_ne_nil L.f3
  have hx0 : (firstFam W)[0]? = some (firstGuards W) := by
    rw [firstGuards, hx]
    rfl
  refine rb_cons (rs_set 2 sc67.nd (ed_is (ev_call C_family_of (hr.mono (by decide)) (by rfl) (ea_cons (ed_var 0 rfl d1) (ea_cons (ev_call C_fewest_guards (hr.mono (by decide)) (by rfl) (ea_cons (ed_var 0 rfl d1) ea_nil) ⟨W, rfl, hW, rfl⟩) ea_nil)) ⟨W, fewestGuards W, rfl, hW, L.f2, rfl⟩) L.f1) fun vF H1 s1 dF => ?_)
  refine rb_cons (rs_set 3 sc67.nd (ev_call C_first_guards (hr.mono (by decide)) (by rfl) (ea_cons (ed_var 0 rfl (dp_same s1 d1)) ea_nil) ⟨W, rfl, hW, rfl⟩) fun vs H2 s2 ds => ?_)
  replace dF := dp_same s2 dF
  replace s2 := s1.trans s2
  refine rb_cons (rs_ifF (et_of_ew (ew_or (k := false) (m := false) (et_is (et_cmp (ec_ne (α := Sm) (x := firstGuards W) (y := firstGuards W) (by decide) (u64 hr) (ed_var 3 rfl ds) (ed_ixL (l := firstFam W) (i := 0) (ed_var 2 rfl dF) (ed_nat 0) hx0))) (decide_eq_false fun h => h rfl)) fun _ =>
    ew_or1 (et_not (k := true) (et_is (et_val (ev_call C_is_lasting (hr.mono (by decide)) (by rfl) (ea_cons (ed_var 0 rfl (dp_same s2 d1)) (ea_cons (ed_var 2 rfl dF) ea_nil)) ⟨W, firstFam W, rfl, hW, L.f3, by have := L.fl; omega, fun s hs => (L.f4 s hs).1, L.f5, rfl⟩)) (List.all_eq_true.mpr L.f6))))) fun H3 s3 => rb_nil ?_)
  replace s2 := s2.trans s3
  refine rb_cons (rs_forR (j := 4) (n := 6) PassesOwn.never rfl hB (by rfl) (ed_nat 6) (by decide) (pg_name (i := 4) sc67.nd rfl (Or.inl rfl))
    (fun i σ' H' => Same H H' ∧ ∃ vs s a b e g, σ' = [some v1, some v2, some vF, some vs, a, b, e, g] ∧ DD K H' vF (firstFam W) ∧ DD K H' vs s ∧ s ∈ firstFam W) (fun H4 s4 => ⟨s2.trans s4, vs, firstGuards W, none, none, none, none, rfl, dp_same (s3.trans s4) dF, dp_same (s3.trans s4) ds, List.mem_of_getElem? hx0⟩) ?_ ?_)
  · rintro i σ' H4 hi ⟨s4, vs, s, a, b, e, g, rfl, dF, ds, hs⟩
    have hsv := (L.f4 s hs).1
    have e1 := dp_same s4 d1
    refine rb_cons (rs_ifF (et_of_ew (ew_or (k := false) (m := false) (et_is (et_cmp (ec_ninL (by decide) (u64 hr) (ed_var 3 rfl ds) (ed_var 2 rfl dF))) (decide_eq_false fun h => h hs)) fun _ =>
      ew_or1 (et_cmp (ec_notN (k := false) (ev_call C_days (hr.mono (by decide)) (by rfl) (ea_cons (ed_var 0 rfl e1) (ea_cons (ed_var 3 rfl ds) ea_nil)) ⟨W, s, rfl, hW, hsv, rfl⟩) fun v H5 q => ?_)))) fun H5 s5 => rb_nil ?_)
    · rw [(L.f7 s hs).1] at q
      have q' : v = .non := q
      rw [q']
      rfl
    replace ds := dp_same s5 ds
    replace dF := dp_same s5 dF
    replace e1 := dp_same s5 e1
    replace s4 := s4.trans s5
    refine rb_cons (rs_ifF (et_not (k := true) (et_is (et_val (ev_call C_holds_all (hr.mono (by decide)) (by rfl) (ea_cons (ed_var 0 rfl e1) (ea_cons (ed_var 3 rfl ds) ea_nil)) ⟨W, s, rfl, hW, hsv, rfl⟩)) (L.f7 s hs).2)) fun H6 s6 => rb_nil ?_)
    replace ds := dp_same s6 ds
    replace dF := dp_same s6 dF
    replace e1 := dp_same s6 e1
    replace s4 := s4.trans s6
    have e2 := dp_same s4 d2
    refine rb_cons (rs_setLc 5 (el_is (m := without W s) (el_lcR (j := 6) (n := W.1) (f := fun o => o) (gs := fun o => decide (o ∉ s.items)) rfl sc67.nd hB (by rfl) (blkOk_by (N := N67) (sc := defScope (top 67)) (by decide +kernel)) (ed_fst (x := W) (ed_var 0 rfl e1)) (by omega) ?_ ?_ (fun _ _ _ _ _ => pg_name (i := 6) sc67.nd rfl (Or.inl rfl))) (map_same _)) fun l xs H7 hl s7 hl7 hxs => ?_)
    · intro x v H1 s' H0 C cl fp hx sm dv
      exact ets_one (et_cmp (ec_ninT (by decide) (u64 hr) (ed_var 6 rfl dv) (ed_var 3 rfl (dp_same sm ds))))
    · intro x v H1 s' H0 C cl fp hx _ sm dv
      exact ee_of (ed_var 6 rfl dv)
    have dl : DD K H7 (.ref l) (without W s) := dd_ofL (SqL.of hl7) hxs
    refine rb_one (rs_if (k := decide (without W s ≠ [])) (et_cmp (ec_ne (α := List Nat) (y := []) (by decide) (u64 hr) (ed_var 5 rfl dl) (ed_lst ea_nil rfl (by decide)))) (fun hk H8 s8 => ?_) fun hk H8 s8 => rb_nil ⟨(s4.trans s7).trans s8, vs, s, _, _, _, _, rfl, dp_same (s7.trans s8) dF, dp_same (s7.trans s8) ds, hs⟩)
    have hne : without W s ≠ [] := of_decide_eq_true hk
    have hpos := List.length_pos_iff.mpr hne
    have mb := fmodM (stir c (70 + (i : Int))) (m := ((without W s).length : Int)) (by omega)
    have hil : ((stir c (70 + (i : Int))).fmod ((without W s).length : Int)).toNat < (without W s).length := by omega
    refine rb_cons (rs_set 6 sc67.nd (ed_ixL (i := ((stir c (70 + (i : Int))).fmod ((without W s).length : Int)).toNat) (ed_var 5 rfl (dp_same s8 dl)) (ed_toNat (ed_mod (ev_call C__law_stir (hr.mono (by decide)) (by rfl) (ea_cons (ed_var 1 rfl (dp_same (s7.trans s8) e2)) (ea_cons (ed_add ed_int (ed_var (x := (i : Int)) 4 rfl (.int _))) ea_nil)) ⟨c, 70 + (i : Int), rfl, rfl⟩) (ed_lenL hB (by rfl) (ed_var 5 rfl (dp_same s8 dl))) (by omega)) mb.1) (List.getElem?_eq_getElem hil)) fun vp H9 s9 dp => ?_)
    have hpm : (without W s)[((stir c (70 + (i : Int))).fmod ((without W s).length : Int)).toNat] ∈ without W s := List.getElem_mem hil
    generalize (without W s)[((stir c (70 + (i : Int))).fmod ((without W s).length : Int)).toNat] = p at hpm dp
    obtain ⟨m, hbm, hmm, hmf⟩ := L.f8 s hs p hpm
    have hpl := without_lt hpm
    have s79 := (s7.trans s8).trans s9
    refine rb_cons (rs_set 7 sc67.nd (ev_call C_best_move (hr.mono (by decide)) (by rfl) (ea_cons (ed_var 0 rfl (dp_same s79 e1)) (ea_cons (ed_var 3 rfl (dp_same s79 ds)) (ea_cons (ed_var 6 rfl dp) ea_nil))) ⟨W, s, p, rfl, hW, hsv, hpl.1, hpl.2, rfl⟩) fun vl Ha sa dlt => ?_)
    rw [hbm] at dlt
    have dlt : DD K Ha vl m := dlt
    have s7a := s79.trans sa
    refine rb_cons (rs_ifF (et_is (et_cmp (ec_ninL (by decide) (u64 hr) (ed_var 7 rfl dlt) (ev_call C_moves (hr.mono (by decide)) (by rfl) (ea_cons (ed_var 0 rfl (dp_same s7a e1)) (ea_cons (ed_var 3 rfl (dp_same s7a ds)) (ea_cons (ed_var 6 rfl (dp_same sa dp)) ea_nil))) ⟨W, s, p, rfl, hW, hsv, hpl.1, hpl.2, rfl⟩))) (decide_eq_false fun h => h hmm)) fun Hb sb => rb_nil ?_)
    exact rb_one (rs_set 3 sc67.nd (ed_var 7 rfl (dp_same sb dlt)) fun vm Hc scc dm => ⟨((s4.trans s7a).trans sb).trans scc, vm, m, _, _, _, _, rfl, dp_same ((s7a.trans sb).trans scc) dF, dm, hmf⟩)
  · rintro σ' H4 ⟨s4, vs, s, a, b, e, g, rfl, dF, ds, hs⟩
    exact rb_one (rs_ret ed_bl fun v H5 s5 d => ⟨s4.trans s5, d⟩)
def p__law_beaten (K : PySem.W.Frag) : List PyData → (V → Hp → Prop) → Prop := fun ds R => ∃ (W : Wb) (s : Sm), ds = [Datum.toD W, Datum.toD s] ∧ VW W ∧ VS W.1 s ∧ R = Gv K true
abbrev N68 : List Str := [("_law_web_here" : Str), ("_law_some_here" : Str), ("_law_left" : Str), ("_law_day" : Str), ("_law_place" : Str)]
theorem sc68 : FnScope [("_law_web_here" : Str), ("_law_some_here" : Str), ("_law_left" : Str), ("_law_day" : Str), ("_law_place" : Str)] [("_law_web_here" : Str), ("_law_some_here" : Str)] (defScope (top 68)) := ⟨rfl, rfl, rfl, by decide +kernel, rfl, by decide +kernel, by decide +kernel⟩
theorem ok__law_beaten (F : FD K "_law_beaten" 68 f fd) (hm : mg "_law_beaten" = some (.ref f)) (hB : Bls mg) (C_days : Cal P w K mg base "days" 6 (SpD K (p_days K))) (C_worst_asking : Cal P w K mg base "worst_asking" 6 (SpD K (p_worst_asking K))) (C_best_move : Cal P w K mg base "best_move" 7 (SpD K (p_best_move K))) (C_family_of : Cal P w K mg base "family_of" 6 (SpD K (p_family_of K))) (C_holds_all : Cal P w K mg base "holds_all" 6 (SpD K (p_holds_all K))) (hLF : ∀ W, VW W → LF W) (hdl : ∀ W s d, VW W → daysM W s = some d → d ≤ 100000) : Cal P w K mg base "_law_beaten" 8 (SpD K (p__law_beaten K)) := by
  refine cal_of F sc68 hm (fun _ _ _ _ _ _ us hl => match us, hl with | [_, _], _ => rfl) (fun ds R h => by obtain ⟨W, z, rfl, hW, hz, rfl⟩ := h; rfl) (fun cdv A outer s H vs E ds R hr d0 h => ?_)
  obtain ⟨W, z, rfl, hW, hz, rfl⟩ := h
  obtain ⟨v1, v2, rfl, d1, d2⟩ := two_of d0

  have L := hLF W hW
  have h8 := hW.2.1
  refine rb_cons (rs_set 2 sc68.nd (ev_call C_days (hr.mono (by decide)) (by rfl) (ea_cons (ed_var 0 rfl d1) (ea_cons (ed_var 1 rfl d2) ea_nil)) ⟨W, z, rfl, hW, hz, rfl⟩) fun vl H1 s1 dl => ?_)
  cases hd : daysM W z with
  | none =>
    rw [hd] at dl
    have dl : vl = .non := dl
    subst dl
    refine rb_cons (rs_ifT (et_cmp (ec_isN (ev_var (R := fun v _ => v = V.non) 2 rfl fun _ _ => rfl) fun v H2 q => by rw [q]; rfl)) fun H2 s2 => ?_)
    exact rb_one (rs_ret (ed_is (ed_cmp (ec_inL (α := Sm) (by decide) (u64 hr) (ed_var 1 rfl (dp_same (s1.trans s2) d2)) (ev_call C_family_of (hr.mono (by decide)) (by rfl) (ea_cons (ed_var 0 rfl (dp_same (s1.trans s2) d1)) (ea_cons (ed_lenT hB (by rfl) (ed_var 1 rfl (dp_same (s1.trans s2) d2))) ea_nil)) ⟨W, z.items.length, rfl, hW, hz.len, rfl⟩))) (decide_eq_true (L.b1 z hz hd))) fun v H3 s3 d => ⟨(s1.trans s2).trans s3, d⟩)
  | some d =>
    rw [hd] at dl
    have dl : DD K H1 vl d := dl
    have hvl := dd_nat dl
    subst hvl
    refine rb_cons (rs_ifF (et_cmp (ec_isN (ev_var (R := fun v _ => v = V.int (d : Int)) 2 rfl fun _ _ => rfl) fun v H2 q => by rw [q]; rfl)) fun H2 s2 => rb_nil ?_)
    replace s1 := s1.trans s2
    refine rb_cons (rs_forD (m := 0) (k3 := 0) (j := 3) (n := d) PassesOwn.never rfl hB (by rfl) (ed_var (x := (d : Int)) 2 rfl (.int _)) (ed_neg (i := 1) ed_int) (ed_neg (i := 1) ed_int) ?_ (pg_name (i := 3) sc68.nd rfl (Or.inl rfl))
      (fun i σ' H' => Same H H' ∧ ∃ vs a b, σ' = [some v1, some vs, some (.int (d : Int)), a, b] ∧ (i ≤ d → ∃ t, VS W.1 t ∧ daysM W t = some (d - i) ∧ DD K H' vs t))
      (fun H3 s3 => ⟨s1.trans s3, v2, none, none, rfl, fun _ => ⟨z, hz, hd, dp_same (s1.trans s3) d2⟩⟩) ?_ ?_)
    · exact hdl W z d hW hd
    · rintro i σ' H3 hi ⟨s3, vs, a, b, rfl, ht⟩
      obtain ⟨t, htv, htd, dt⟩ := ht (by omega)
      obtain ⟨hne, hho, hbm⟩ := L.b2 t _ htv htd
      have e1 := dp_same s3 d1
      refine rb_cons (rs_ifF (et_of_ew (ew_or (k := false) (m := false) (et_is (et_cmp (ec_ne (α := Int) (x := ((d - i : Nat) : Int)) (y := (d : Int) - (i : Int)) (by decide) (u64 hr) (ev_imp (ev_call C_days (hr.mono (by decide)) (by rfl) (ea_cons (ed_var 0 rfl e1) (ea_cons (ed_var 1 rfl dt) ea_nil)) ⟨W, t, rfl, hW, htv, rfl⟩) fun v H4 _ q => by rw [htd] at q; exact q) (ed_var 3 rfl (.int _)))) (decide_eq_false (by omega))) fun _ =>
        ew_or1 (et_is (et_cmp (ec_ne (α := Bool) (by decide) (u64 hr) (ev_call C_holds_all (hr.mono (by decide)) (by rfl) (ea_cons (ed_var 0 rfl e1) (ea_cons (ed_var 1 rfl dt) ea_nil)) ⟨W, t, rfl, hW, htv, rfl⟩) (ed_cmp (ec_gt (ed_var (x := (d : Int) - (i : Int)) 3 rfl (.int _)) ed_int)))) ?_))) fun H4 s4 => rb_nil ?_)
      · rw [hho]
        refine decide_eq_false fun h => h ?_
        exact decide_eq_decide.mpr (by omega)
      replace e1 := dp_same s4 e1
      replace dt := dp_same s4 dt
      replace s3 := s3.trans s4
      refine rb_cons (rs_set 4 sc68.nd (ev_call C_worst_asking (hr.mono (by decide)) (by rfl) (ea_cons (ed_var 0 rfl e1) (ea_cons (ed_var 1 rfl dt) ea_nil)) ⟨W, t, rfl, hW, htv, hne, rfl⟩) fun vp H5 s5 dp => ?_)
      obtain ⟨p, hpw, dp⟩ := dp
      have hpl := without_lt hpw.1
      obtain ⟨hb0, hb1⟩ := hbm p hpw
      refine rb_cons (rs_set 1 sc68.nd (ev_call C_best_move (hr.mono (by decide)) (by rfl) (ea_cons (ed_var 0 rfl (dp_same s5 e1)) (ea_cons (ed_var 1 rfl (dp_same s5 dt)) (ea_cons (ed_var 4 rfl dp) ea_nil))) ⟨W, t, p, rfl, hW, htv, hpl.1, hpl.2, rfl⟩) fun vm H6 s6 dm => ?_)
      rcases Nat.eq_zero_or_pos (d - i) with h0 | h0
      · rw [hb0 h0] at dm
        have dm : vm = .non := dm
        subst dm
        refine rb_one (rs_ifF (et_is (et_cmp (ec_ne (α := Bool) (x := true) (by decide) (u64 hr) (ed_cmp (ec_isN (ev_var (R := fun v _ => v = V.non) 1 rfl fun _ _ => rfl) fun v H2 q => by rw [q]; rfl)) (ed_cmp (ec_eq (α := Int) (by decide) (u64 hr) (ed_var (x := (d : Int) - (i : Int)) 3 rfl (.int _)) ed_int)))) ?_) fun H7 s7 => rb_nil ⟨((s3.trans s5).trans s6).trans s7, .non, _, _, rfl, fun h => ?_⟩)
        · refine decide_eq_false fun h => h ?_
          exact (decide_eq_true (by omega)).symm
        · omega
      · obtain ⟨m, hm, hmv, hmd⟩ := hb1 h0
        rw [hm] at dm
        have dm : DD K H6 vm m := dm
        refine rb_one (rs_ifF (et_is (et_cmp (ec_ne (α := Bool) (x := false) (by decide) (u64 hr) (ed_cmp (ec_isN (ev_var (R := fun v H2 => DD K H2 v m) 1 rfl fun _ s => dp_same s dm) fun v H2 q => decide_eq_false (dd_nonone q))) (ed_cmp (ec_eq (α := Int) (by decide) (u64 hr) (ed_var (x := (d : Int) - (i : Int)) 3 rfl (.int _)) ed_int)))) ?_) fun H7 s7 => rb_nil ⟨((s3.trans s5).trans s6).trans s7, vm, _, _, rfl, fun h => ⟨m, hmv, ?_, dp_same s7 dm⟩⟩)
        · refine decide_eq_false fun h => h ?_
          exact (decide_eq_false (by omega)).symm
        · rw [hmd]
          congr 1
    · rintro σ' H3 ⟨s3, vs, a, b, rfl, ht⟩
      exact rb_one (rs_ret ed_bl fun v H5 s5 d => ⟨s3.trans s5, d⟩)
def p__law_right (K : PySem.W.Frag) : List PyData → (V → Hp → Prop) → Prop := fun ds R => ∃ (W : Wb) (c : Int), ds = [Datum.toD W, Datum.toD c] ∧ VW W ∧ R = Gv K true
abbrev N69 : List Str := [("_law_web_here" : Str), ("_law_cell" : Str), ("_law_guards" : Str), ("_law_rows" : Str), ("_law_one" : Str), ("_law_k" : Str)]
theorem sc69 : FnScope [("_law_web_here" : Str), ("_law_cell" : Str), ("_law_guards" : Str), ("_law_rows" : Str), ("_law_one" : Str), ("_law_k" : Str)] [("_law_web_here" : Str), ("_law_cell" : Str)] (defScope (top 69)) := ⟨rfl, rfl, rfl, by decide +kernel, rfl, by decide +kernel, by decide +kernel⟩
theorem ok__law_right (F : FD K "_law_right" 69 f fd) (hm : mg "_law_right" = some (.ref f)) (hB : Bls mg) (C_fewest_guards : Cal P w K mg base "fewest_guards" 6 (SpD K (p_fewest_guards K))) (C_crowd_family : Cal P w K mg base "crowd_family" 6 (SpD K (p_crowd_family K))) (C__law_kept : Cal P w K mg base "_law_kept" 8 (SpD K (p__law_kept K))) (C_is_untied : Cal P w K mg base "is_untied" 6 (SpD K (p_is_untied K))) (C_first_crowds : Cal P w K mg base "first_crowds" 6 (SpD K (p_first_crowds K))) (C_is_lasting : Cal P w K mg base "is_lasting" 6 (SpD K (p_is_lasting K))) (C_fewest_crowds : Cal P w K mg base "fewest_crowds" 6 (SpD K (p_fewest_crowds K))) (C_first_untied : Cal P w K mg base "first_untied" 6 (SpD K (p_first_untied K))) (C_family_of : Cal P w K mg base "family_of" 6 (SpD K (p_family_of K))) (C__law_beaten : Cal P w K mg base "_law_beaten" 8 (SpD K (p__law_beaten K))) (C_fewest : Cal P w K mg base "fewest" 7 (SpD K (p_fewest K))) (C_most_untied : Cal P w K mg base "most_untied" 6 (SpD K (p_most_untied K))) (C__law_some : Cal P w K mg base "_law_some" 1 (SpD K (p__law_some K))) (C__law_stir : Cal P w K mg base "_law_stir" 1 (SpD K (p__law_stir K))) (hLF : ∀ W, VW W → LF W) : Cal P w K mg base "_law_right" 9 (SpD K (p__law_right K)) := by
  refine cal_of F sc69 hm (fun _ _ _ _ _ _ us hl => match us, hl with | [_, _], _ => rfl) (fun ds R h => by obtain ⟨W, c, rfl, hW, rfl⟩ := h; rfl) (fun cdv A outer s H vs E ds R hr d0 h => ?_)
  obtain ⟨W, c, rfl, hW, rfl⟩ := h
  obtain ⟨v1, v2, rfl, d1, d2⟩ := two_of d0

  have L := hLF W hW
  have h8 := hW.2.1
  have hcl := crowdFamily_len L.crd hW
  refine rb_cons (rs_set 2 sc69.nd (ev_call C_fewest_guards (hr.mono (by decide)) (by rfl) (ea_cons (ed_var 0 rfl d1) ea_nil) ⟨W, rfl, hW, rfl⟩) fun vg H1 s1 dg => ?_)
  have dg : DD K H1 vg (fewestGuards W) := dg
  have e1 := dp_same s1 d1
  refine rb_cons (rs_ifF (et_not (k := true) (et_is (et_chain (i := max (fewest W : Int) (mostUntied W : Int)) (j := (fewestGuards W : Int)) (k := ((fewCrowds W).length : Int)) (ed_max2 rfl hB (by rfl) (ev_call C_fewest (hr.mono (by decide)) (by rfl) (ea_cons (ed_var 0 rfl e1) ea_nil) ⟨W, rfl, hW, rfl⟩) (ev_call C_most_untied (hr.mono (by decide)) (by rfl) (ea_cons (ed_var 0 rfl e1) ea_nil) ⟨W, rfl, hW, rfl⟩)) (ed_var 2 rfl dg) (ev_call C_fewest_crowds (hr.mono (by decide)) (by rfl) (ea_cons (ed_var 0 rfl e1) ea_nil) ⟨W, rfl, hW, rfl⟩)) ?_)) fun H2 s2 => rb_nil ?_)
  · have := L.le1
    have := L.le2
    have := L.le3
    rw [Bool.and_eq_true]
    exact ⟨decide_eq_true (by omega), decide_eq_true (by omega)⟩
  replace e1 := dp_same s2 e1
  replace s1 := s1.trans s2
  refine rb_cons (rs_ifF (et_not (k := true) (et_is (et_val (ev_call C_is_untied (hr.mono (by decide)) (by rfl) (ea_cons (ed_var 0 rfl e1) (ea_cons (ev_call C_first_untied (hr.mono (by decide)) (by rfl) (ea_cons (ed_var 0 rfl e1) ea_nil) ⟨W, rfl, hW, rfl⟩) ea_nil)) ⟨W, firstUntied W, rfl, hW, L.unt.1, rfl⟩)) L.unt.2)) fun H3 s3 => rb_nil ?_)
  replace e1 := dp_same s3 e1
  replace s1 := s1.trans s3
  refine rb_cons (rs_set 3 sc69.nd (ev_call C_crowd_family (hr.mono (by decide)) (by rfl) (ea_cons (ed_var 0 rfl e1) (ea_cons (ev_call C_first_crowds (hr.mono (by decide)) (by rfl) (ea_cons (ed_var 0 rfl e1) ea_nil) ⟨W, rfl, hW, rfl⟩) ea_nil)) ⟨W, fewCrowds W, rfl, hW, L.crd, rfl⟩) fun vr H4 s4 dr => ?_)
  have dr : DD K H4 vr (crowdFamily (fewCrowds W)) := dr
  replace e1 := dp_same s4 e1
  replace s1 := s1.trans s4
  refine rb_cons (rs_ifF (et_not (k := true) (et_is (et_val (ev_call C_is_lasting (hr.mono (by decide)) (by rfl) (ea_cons (ed_var 0 rfl e1) (ea_cons (ed_var 3 rfl dr) ea_nil)) ⟨W, crowdFamily (fewCrowds W), rfl, hW, L.cfN, by omega, L.cfV, L.cfP, rfl⟩)) (List.all_eq_true.mpr L.cfA))) fun H5 s5 => rb_nil ?_)
  replace e1 := dp_same s5 e1
  replace dr := dp_same s5 dr
  replace s1 := s1.trans s5
  refine rb_cons (rs_forL (j := 4) (xs := (crowdFamily (fewCrowds W)).take 5) PassesOwn.never rfl (ed_is (ed_slL (l := crowdFamily (fewCrowds W)) (j := some ((5 : Nat) : Int)) (ed_var 3 rfl dr) eo_none (eo_some ed_int)) (cutTo _ 5)) (pg_name (i := 4) sc69.nd rfl (Or.inl rfl)) fun v H6 s6 dv => ⟨H6, fun i σ' H' => Same H6 H' ∧ ∃ a, σ' = [some v1, some v2, some vg, some vr, a, none], dv, ⟨Same.refl _, none, rfl⟩, fun i σ' H' q => q.1, ?_, ?_⟩)
  · rintro i o u σ' H7 ho ⟨s7, a, rfl⟩ du
    have hom : o ∈ crowdFamily (fewCrowds W) := List.mem_of_mem_take (List.mem_of_getElem? ho)
    refine rb_one (rs_ifF (et_is (et_cmp (ec_ninL (α := Sm) (by decide) (u64 hr) (ed_var 4 rfl du) (ev_call C_family_of (hr.mono (by decide)) (by rfl) (ea_cons (ed_var 0 rfl (dp_same (s6.trans s7) e1)) (ea_cons (ed_lenT hB (by rfl) (ed_var 4 rfl du)) ea_nil)) ⟨W, o.items.length, rfl, hW, (L.cfV o hom).len, rfl⟩))) (decide_eq_false fun h => h (L.cfF o hom))) fun H8 s8 => rb_nil ⟨s7.trans s8, _, rfl⟩)
  · rintro σ' H7 ⟨s7, a, rfl⟩
    replace s1 := (s1.trans s6).trans s7
    refine rb_cons (rs_forR (j := 5) (n := 5) PassesOwn.never rfl hB (by rfl) (ed_nat 5) (by decide) (pg_name (i := 5) sc69.nd rfl (Or.inl rfl))
      (fun i σ' H' => Same H H' ∧ ∃ b, σ' = [some v1, some v2, some vg, some vr, a, b]) (fun H8 s8 => ⟨s1.trans s8, none, rfl⟩) ?_ ?_)
    · rintro i σ' H8 hi ⟨s8, b, rfl⟩
      have hpw : (0 : Int) < 1 * 2 ^ (W.1 : Int).toNat := by
        rw [Int.one_mul]
        exact Int.pow_pos (by decide)
      refine rb_one (rs_ifF (et_not (k := true) (et_val (ev_call C__law_beaten (hr.mono (by decide)) (by rfl) (ea_cons (ed_var 0 rfl (dp_same s8 d1)) (ea_cons (ev_call C__law_some (hr.mono (by decide)) (by rfl) (ea_cons (ed_fst (x := W) (ed_var 0 rfl (dp_same s8 d1))) (ea_cons (ed_mod (ev_call C__law_stir (hr.mono (by decide)) (by rfl) (ea_cons (ed_var 1 rfl (dp_same s8 d2)) (ea_cons (ed_add ed_int (ed_var (x := (i : Int)) 5 rfl (.int _))) ea_nil)) ⟨c, 80 + (i : Int), rfl, rfl⟩) (ed_shl (i := 1) (j := (W.1 : Int)) ed_int (ed_fst (x := W) (ed_var 0 rfl (dp_same s8 d1))) ⟨by omega, by omega, by decide⟩) (by omega)) ea_nil)) ⟨W.1, _, rfl, h8, rfl⟩) ea_nil)) ⟨W, _, rfl, hW, lawSome_VS _ _, rfl⟩))) fun H9 s9 => rb_nil ⟨s8.trans s9, _, rfl⟩)
    · rintro σ' H8 ⟨s8, b, rfl⟩
      exact rb_one (rs_ret (ev_call C__law_kept (hr.mono (by decide)) (by rfl) (ea_cons (ed_var 0 rfl (dp_same s8 d1)) (ea_cons (ed_var 1 rfl (dp_same s8 d2)) ea_nil)) ⟨W, c, rfl, hW, rfl⟩) fun v H9 s9 d => ⟨s8.trans s9, d⟩)
def p_law (K : PySem.W.Frag) : List PyData → (V → Hp → Prop) → Prop := fun ds R => ∃ (l : List Int), ds = [Datum.toD l] ∧ l.length ≤ 1000 ∧ R = Gv K true
abbrev N70 : List Str := [("_law_script" : Str), ("_law_cell" : Str), ("_law_many" : Str), ("_law_tree" : Str), ("_law_b" : Str)]
theorem sc70 : FnScope [("_law_script" : Str), ("_law_cell" : Str), ("_law_many" : Str), ("_law_tree" : Str), ("_law_b" : Str)] [("_law_script" : Str)] (defScope (top 70)) := ⟨rfl, rfl, rfl, by decide +kernel, rfl, by decide +kernel, by decide +kernel⟩
theorem ok_law (F : FD K "law" 70 f fd) (hm : mg "law" = some (.ref f)) (hB : Bls mg) (C__law_cell_at : Cal P w K mg base "_law_cell_at" 1 (SpD K (p__law_cell_at K))) (C__law_right : Cal P w K mg base "_law_right" 9 (SpD K (p__law_right K))) (C__law_web : Cal P w K mg base "_law_web" 2 (SpD K (p__law_web K))) (C__law_stir : Cal P w K mg base "_law_stir" 1 (SpD K (p__law_stir K))) (C_fewest_guards : Cal P w K mg base "fewest_guards" 6 (SpD K (p_fewest_guards K))) (C_most_untied : Cal P w K mg base "most_untied" 6 (SpD K (p_most_untied K))) (C_fewest_crowds : Cal P w K mg base "fewest_crowds" 6 (SpD K (p_fewest_crowds K))) (hT : ∀ n p, 1 ≤ n → n ≤ 8 → (∀ b, 1 ≤ b → b < n → p b < b) → TF (treeW n p)) : FnOk P w K mg base CX0 10 f fd ["_law_script"] (SpD K (p_law K)) := by
  refine fn_of F sc70 (fun ds R h => by obtain ⟨l, rfl, hlen, rfl⟩ := h; rfl) (fun cdv A outer s H vs E ds R hr d0 h => ?_)
  obtain ⟨l, rfl, hlen, rfl⟩ := h
  obtain ⟨v1, rfl, d1⟩ := one_of d0

  have hcut : (cutD l (some 1) (some 3)).length ≤ 1000 := by
    unfold cutD
    rw [List.length_take, List.length_drop]
    omega
  refine rb_cons (rs_forL (j := 1) (xs := [l.getD 0 0] ++ cutD l (some 1) (some 3)) PassesOwn.never rfl (ed_catL (t := [l.getD 0 0]) (ed_lst (xs := [l.getD 0 0]) (ea_cons (ev_call C__law_cell_at (hr.mono (by decide)) (by rfl) (ea_cons (ed_var 0 rfl d1) (ea_cons (ed_nat 0) ea_nil)) ⟨l, 0, rfl, rfl⟩) ea_nil) rfl (show 1 ≤ 1000 by decide)) (ed_slL (l := l) (ed_var 0 rfl d1) (eo_some ed_int) (eo_some ed_int)) ?_) (pg_name (i := 1) sc70.nd rfl (Or.inr rfl)) fun v H6 s6 dv => ⟨H6, fun i σ' H' => Same H6 H' ∧ ∃ a b e g, σ' = [some v1, a, b, e, g], dv, ⟨Same.refl _, none, none, none, none, rfl⟩, fun i σ' H' q => q.1, ?_, ?_⟩)
  · refine Nat.le_trans (?_ : _ ≤ 1001) (by decide)
    rw [List.length_singleton]
    omega
  · rintro i c u σ' H7 hc ⟨s7, a, b, e, g, rfl⟩ du
    have m8 := fmodM (stir c 2) (m := 8) (by decide)
    obtain ⟨n, hn⟩ : ∃ n : Nat, 1 + (stir c 2).fmod 8 = (n : Int) := ⟨(1 + (stir c 2).fmod 8).toNat, by omega⟩
    have hn1 : 1 ≤ n := by omega
    have hn8 : n ≤ 8 := by omega
    refine rb_cons (rs_ifF (et_not (k := true) (et_val (ev_callR (R := Gv K true) C__law_right (hr.mono (by decide)) (by rfl) (ear_cons (R1 := fun v H => ∃ W : Wb, VW W ∧ DD K H v W) (ev_call C__law_web (hr.mono (by decide)) (by rfl) (ea_cons (ed_var 1 rfl du) (ea_cons (ed_nat 7) ea_nil)) ⟨c, 7, rfl, by decide, by decide, rfl⟩) (ear_cons (R1 := fun v H => DD K H v c) (ed_var 1 rfl du) ear_nil (fun _ _ _ s d => dp_same s d)) (fun _ _ _ s ⟨W, q, d⟩ => ⟨W, q, dp_same s d⟩)) (fun vs H8 _ r Q q => ?_)))) fun H8 s8 => rb_nil ?_)
    · obtain ⟨vw, _, rfl, ⟨W, hW, dW⟩, vc, _, rfl, dc, rfl⟩ := r
      exact ⟨[Datum.toD W, Datum.toD c], _, .cons dW (.cons dc .nil), ⟨W, c, rfl, hW, rfl⟩, q⟩
    refine rb_cons (rs_set 2 sc70.nd (ed_is (ed_add (i := 1) (j := (stir c 2).fmod 8) ed_int (ed_mod (ev_call C__law_stir (hr.mono (by decide)) (by rfl) (ea_cons (ed_var 1 rfl (dp_same s8 du)) (ea_cons (ed_int (i := 2)) ea_nil)) ⟨c, 2, rfl, rfl⟩) ed_int (by decide))) hn) fun vn H9 s9 dn => ?_)
    rw [dd_int dn]
    have hp : ∀ b : Nat, 1 ≤ b → b < n → ((stir c (90 + (b : Int))).fmod (b : Int)).toNat < b := fun b h1 h2 => by
      have := fmodM (stir c (90 + (b : Int))) (m := (b : Int)) (by omega)
      omega
    have hV := tree_VW (p := fun b : Nat => ((stir c (90 + (b : Int))).fmod (b : Int)).toNat) hn1 hn8 hp
    obtain ⟨ht1, ht2⟩ := hT n (fun b : Nat => ((stir c (90 + (b : Int))).fmod (b : Int)).toNat) hn1 hn8 hp
    refine rb_cons (rs_set 3 sc70.nd (ed_pair (x := n) (y := (treeW n fun b : Nat => ((stir c (90 + (b : Int))).fmod (b : Int)).toNat).2) (ed_var (x := n) 2 rfl (.int _)) (ed_tupleL hB (by rfl) (ed_sorted (δ := Nat × Nat) (l := ((List.range (n - 1)).map (· + 1)).map fun b : Nat => (((stir c (90 + (b : Int))).fmod (b : Int)).toNat, b)) (by decide) (u128 hr) hB (by rfl) (ed_is (ed_ofEL (el_of (el_lcR2 (j := 4) (n := n) (f := fun b : Nat => (((stir c (90 + (b : Int))).fmod (b : Int)).toNat, b)) (gs := fun _ => true) rfl sc70.nd hB (by rfl) (blkOk_by (N := N70) (sc := defScope (top 70)) (by decide +kernel)) (ed_nat 1) (ed_var (x := n) 2 rfl (.int _)) (by omega) ?_ ?_ (fun _ _ _ _ _ => pg_name (i := 4) sc70.nd rfl (Or.inl rfl))))) (by rw [filter_tt])) (srt_pairs _)))) fun vt Ha sa dt => ?_)
    · intro x v H1 s' H0 C cl fp hx1 hx2 sm dv
      exact ets_nil
    · intro x v H1 s' H0 C cl fp hx1 hx2 _ sm dv
      have hb := fmodM (stir c (90 + (x : Int))) (m := (x : Int)) (by omega)
      exact ee_of (ed_pair (ed_toNat (ed_mod (ev_call C__law_stir (hr.mono (by decide)) (by rfl) (ea_cons (ed_var 1 rfl (dp_same ((s8.trans s9).trans sm) du)) (ea_cons (ed_add (i := 90) (j := (x : Int)) ed_int (ed_var 4 rfl dv)) ea_nil)) ⟨c, 90 + (x : Int), rfl, rfl⟩) (ed_var (x := (x : Int)) 4 rfl dv) (by omega)) hb.1) (ed_var 4 rfl dv))
    have dt : DD K Ha vt (treeW n fun b : Nat => ((stir c (90 + (b : Int))).fmod (b : Int)).toNat) := dt
    generalize hTW : treeW n (fun b : Nat => ((stir c (90 + (b : Int))).fmod (b : Int)).toNat) = T at dt hV ht1 ht2
    refine rb_one (rs_ifF (et_of_ew (ew_or (k := false) (m := false) (et_is (et_cmp (ec_ne (α := Nat) (by decide) (u64 hr) (ev_call C_fewest_guards (hr.mono (by decide)) (by rfl) (ea_cons (ed_var 3 rfl dt) ea_nil) ⟨T, rfl, hV, rfl⟩) (ev_call C_most_untied (hr.mono (by decide)) (by rfl) (ea_cons (ed_var 3 rfl dt) ea_nil) ⟨T, rfl, hV, rfl⟩))) (decide_eq_false fun h => h ht1)) fun _ =>
      ew_or1 (et_is (et_cmp (ec_ne (α := Nat) (by decide) (u64 hr) (ev_call C_fewest_crowds (hr.mono (by decide)) (by rfl) (ea_cons (ed_var 3 rfl dt) ea_nil) ⟨T, rfl, hV, rfl⟩) (ev_call C_most_untied (hr.mono (by decide)) (by rfl) (ea_cons (ed_var 3 rfl dt) ea_nil) ⟨T, rfl, hV, rfl⟩))) (decide_eq_false fun h => h ht2)))) fun Hb sb => rb_nil ⟨(((s7.trans s8).trans s9).trans sa).trans sb, _, _, _, _, rfl⟩)
  · rintro σ' H7 ⟨s7, a, b, e, g, rfl⟩
    exact rb_one (rs_ret ed_bl fun v H8 s8 d => ⟨(s6.trans s7).trans s8, d⟩)
end
end GF
set_option Elab.async false
set_option linter.all false
set_option maxRecDepth 100000
set_option maxHeartbeats 1000000
/-! plain maths: moves, families, days -/
namespace GF
open PySem.W
theorem leN_iff {a b : Nat} : leD a b = true ↔ a ≤ b := by rw [leN, decide_eq_true_eq]
theorem sortN_pw (l : List Nat) : (l.mergeSort leD).Pairwise (· ≤ ·) := by
  have s := List.pairwise_mergeSort (le := (leD : Nat → Nat → Bool)) (fun a b c x y => by rw [leN_iff] at *; omega) (fun a b => by rw [Bool.or_eq_true, leN_iff, leN_iff]; omega) l
  exact s.imp fun h => leN_iff.mp h
theorem sortS_mem {l : List Nat} {x : Nat} : x ∈ (sortS l).items ↔ x ∈ l := List.mem_mergeSort
theorem sortS_pw {l : List Nat} (h : l.Nodup) : (sortS l).items.Pairwise (· < ·) := by
  have s := sortN_pw l
  have nd : (l.mergeSort leD).Nodup := (List.mergeSort_perm l leD).nodup_iff.mpr h
  exact (s.and nd).imp fun {a b} h => by
    obtain ⟨h1, h2⟩ := h
    have : a ≠ b := h2
    omega
/-- rising lists with the same members are the same -/
theorem rising_ext : ∀ {l m : List Nat}, l.Pairwise (· < ·) → m.Pairwise (· < ·) → (∀ x, x ∈ l ↔ x ∈ m) → l = m
  | [], [], _, _, _ => rfl
  | [], y :: m, _, _, h => absurd ((h y).mpr List.mem_cons_self) (by simp)
  | x :: l, [], _, _, h => absurd ((h x).mp List.mem_cons_self) (by simp)
  | x :: l, y :: m, hl, hm, h => by
    obtain ⟨l1, l2⟩ := List.pairwise_cons.mp hl
    obtain ⟨m1, m2⟩ := List.pairwise_cons.mp hm
    have e : x = y := by
      rcases List.mem_cons.mp ((h x).mp List.mem_cons_self) with e | hx
      · exact e
      · rcases List.mem_cons.mp ((h y).mpr List.mem_cons_self) with e | hy
        · exact e.symm
        · have := m1 x hx
          have := l1 y hy
          omega
    subst e
    congr 1
    refine rising_ext l2 m2 fun z => ⟨fun hz => ?_, fun hz => ?_⟩
    · rcases List.mem_cons.mp ((h z).mp (List.mem_cons_of_mem _ hz)) with e | q
      · subst e
        exact absurd (l1 z hz) (Nat.lt_irrefl _)
      · exact q
    · rcases List.mem_cons.mp ((h z).mpr (List.mem_cons_of_mem _ hz)) with e | q
      · subst e
        exact absurd (m1 z hz) (Nat.lt_irrefl _)
      · exact q
theorem VS.ext {n : Nat} {s t : Sm} (hs : s.items.Pairwise (· < ·)) (ht : t.items.Pairwise (· < ·)) (h : ∀ x, x ∈ s.items ↔ x ∈ t.items) : s = t := by
  obtain ⟨l⟩ := s
  obtain ⟨m⟩ := t
  exact congrArg Tup.mk (rising_ext hs ht h)
theorem mem_moves {W : Wb} {s m : Sm} {p : Nat} : m ∈ movesOf W s p ↔ ∃ g ∈ s.items, tied W g p = true ∧ m = mvEl s p g := by
  rw [movesOf_eq, List.mem_mergeSort, List.mem_map]
  constructor
  · rintro ⟨g, hg, rfl⟩
    obtain ⟨h1, h2⟩ := List.mem_filter.mp hg
    exact ⟨g, h1, h2, rfl⟩
  · rintro ⟨g, h1, h2, rfl⟩
    exact ⟨g, List.mem_filter.mpr ⟨h1, h2⟩, rfl⟩
theorem mvEl_mem {s : Sm} {p g x : Nat} : x ∈ (mvEl s p g).items ↔ (x ∈ s.items ∧ x ≠ g) ∨ x = p := by
  unfold mvEl
  rw [sortS_mem, List.mem_append, List.mem_filter, decide_eq_true_eq, List.mem_singleton]
theorem nodup_snoc {l : List Nat} {p : Nat} (h : l.Nodup) (hp : p ∉ l) : (l ++ [p]).Nodup := by
  rw [List.nodup_append]
  refine ⟨h, List.nodup_cons.mpr ⟨by simp, List.nodup_nil⟩, fun a ha b hb e => ?_⟩
  rw [List.mem_singleton] at hb
  subst hb
  subst e
  exact hp ha
theorem filter_ne_len : ∀ {l : List Nat} {g : Nat}, l.Nodup → g ∈ l → (l.filter fun o => decide (o ≠ g)).length + 1 = l.length
  | [], g, _, h => by cases h
  | x :: l, g, hn, h => by
    obtain ⟨h1, h2⟩ := List.nodup_cons.mp hn
    by_cases e : x = g
    · subst e
      rw [List.filter_cons, if_neg (by simp)]
      have : (l.filter fun o => decide (o ≠ x)) = l := List.filter_eq_self.mpr fun y hy => decide_eq_true fun e => h1 (e ▸ hy)
      rw [this]
      rfl
    · rw [List.filter_cons, if_pos (by simpa using e)]
      have hg : g ∈ l := by
        rcases List.mem_cons.mp h with q | q
        · exact absurd q.symm e
        · exact q
      have := filter_ne_len h2 hg
      simp only [List.length_cons]
      omega
theorem mvEl_VS {n : Nat} {s : Sm} {p g : Nat} (hs : VS n s) (hp : p < n) (hn : p ∉ s.items) (hg : g ∈ s.items) : VS n (mvEl s p g) ∧ (mvEl s p g).items.length = s.items.length := by
  have nd : ((s.items.filter fun o => decide (o ≠ g)) ++ [p]).Nodup := nodup_snoc (List.Pairwise.filter _ hs.nodup) fun h => hn (List.mem_filter.mp h).1
  refine ⟨⟨sortS_pw nd, fun x hx => ?_⟩, ?_⟩
  · rcases mvEl_mem.mp hx with h | rfl
    · exact hs.2 x h.1
    · exact hp
  · rw [mvEl, sortS_len, List.length_append]
    exact filter_ne_len hs.nodup hg
theorem mem_without {W : Wb} {s : Sm} {p : Nat} : p ∈ without W s ↔ p < W.1 ∧ p ∉ s.items := by
  unfold without
  rw [List.mem_filter, List.mem_range, decide_eq_true_eq]
theorem answers_iff {W : Wb} {s : Sm} {A : List Sm} : answersIn W s A = true ↔ ∀ p ∈ without W s, ∃ m ∈ movesOf W s p, m ∈ A := by
  unfold answersIn
  rw [List.all_eq_true]
  refine forall_congr' fun p => forall_congr' fun _ => ?_
  rw [List.any_eq_true]
  exact ⟨fun ⟨m, h1, h2⟩ => ⟨m, h1, of_decide_eq_true h2⟩, fun ⟨m, h1, h2⟩ => ⟨m, h1, decide_eq_true h2⟩⟩
theorem answers_mono {W : Wb} {s : Sm} {A B : List Sm} (h : ∀ m ∈ A, m ∈ B) (ha : answersIn W s A = true) : answersIn W s B = true := by
  rw [answers_iff] at *
  intro p hp
  obtain ⟨m, h1, h2⟩ := ha p hp
  exact ⟨m, h1, h m h2⟩
theorem mem_gone {W : Wb} {L : List Sm} {s : Sm} : s ∈ goneOf W L ↔ s ∈ L ∧ answersIn W s L = false := by
  unfold goneOf
  rw [List.mem_filter, Bool.not_eq_true']
theorem mem_next {W : Wb} {L : List Sm} {s : Sm} : (s ∈ L.filter fun s => decide (s ∉ goneOf W L)) ↔ s ∈ L ∧ answersIn W s L = true := by
  rw [List.mem_filter, decide_eq_true_eq, mem_gone]
  constructor
  · rintro ⟨h1, h2⟩
    refine ⟨h1, ?_⟩
    cases e : answersIn W s L with
    | true => rfl
    | false => exact absurd ⟨h1, e⟩ h2
  · rintro ⟨h1, h2⟩
    exact ⟨h1, fun h => by rw [h2] at h; cases h.2⟩
/-- what holds at the start and is kept by each turn holds at the end -/
theorem loop_inv {W : Wb} (P : Nat → List Sm → List (Sm × Nat) → Prop) (hs : ∀ day L acc, goneOf W L ≠ [] → P day L acc → P (day + 1) (L.filter fun s => decide (s ∉ goneOf W L)) (acc ++ (goneOf W L).map fun s => (s, day))) :
    ∀ fuel day L acc, L.length < fuel → P day L acc → ∃ day', P day' (daysLoop W fuel day L acc).2 (daysLoop W fuel day L acc).1 ∧ goneOf W (daysLoop W fuel day L acc).2 = [] := by
  intro fuel
  induction fuel with
  | zero => intro _ _ _ h; exact absurd h (Nat.not_lt_zero _)
  | succ fuel ih =>
    intro day L acc hl p
    by_cases hg : goneOf W L = []
    · rw [daysLoop, if_pos hg]
      exact ⟨day, p, hg⟩
    · rw [daysLoop, if_neg hg]
      exact ih (day + 1) _ _ (by have := gone_lt hg; omega) (hs day L acc hg p)
theorem dlook_append {D E : List (Sm × Nat)} {s : Sm} : dlook (D ++ E) s = (dlook D s).or (dlook E s) := by
  unfold dlook
  rw [List.find?_append]
  cases D.find? fun q => decide (q.1 = s) with
  | none => rfl
  | some q => rfl
theorem dlook_map {L : List Sm} {d : Nat} {s : Sm} : dlook (L.map fun s => (s, d)) s = if s ∈ L then some d else none := by
  by_cases h : s ∈ L
  · rw [if_pos h]
    unfold dlook
    have : ∃ q, (L.map fun s => (s, d)).find? (fun q => decide (q.1 = s)) = some q := by
      cases e : (L.map fun s => (s, d)).find? (fun q => decide (q.1 = s)) with
      | some q => exact ⟨q, rfl⟩
      | none =>
        rw [List.find?_eq_none] at e
        exact absurd (decide_eq_true rfl) (e (s, d) (List.mem_map_of_mem h))
    obtain ⟨q, hq⟩ := this
    rw [hq]
    obtain ⟨t, _, rfl⟩ := List.mem_map.mp (List.mem_of_find?_eq_some hq)
    rfl
  · rw [if_neg h, dlook_none_iff]
    intro q hq e
    have := mem_numbered hq
    rw [e] at this
    exact h this
/-- in the level of a day -/
def InLev (S : List Sm) (D : List (Sm × Nat)) (d : Nat) (t : Sm) : Prop := t ∈ S ∧ ∀ e, dlook D t = some e → d ≤ e
def AnsLev (W : Wb) (S : List Sm) (D : List (Sm × Nat)) (d : Nat) (s : Sm) : Prop := ∀ p ∈ without W s, ∃ m ∈ movesOf W s p, InLev S D d m
structure LoopI (W : Wb) (S : List Sm) (day : Nat) (L : List Sm) (D : List (Sm × Nat)) : Prop where
  sub : L.Sublist S
  lft : ∀ s, s ∈ L ↔ s ∈ S ∧ dlook D s = none
  dy : ∀ s d, dlook D s = some d → s ∈ S ∧ d < day
  no : ∀ s d, dlook D s = some d → ¬ AnsLev W S D d s
  yes : ∀ s d, InLev S D (d + 1) s → d < day → AnsLev W S D d s
  ln : day ≤ D.length
  sz : day + L.length ≤ S.length
theorem inLev_day {W : Wb} {S L : List Sm} {day : Nat} {D : List (Sm × Nat)} (h : LoopI W S day L D) (t : Sm) : InLev S D day t ↔ t ∈ L := by
  rw [h.lft]
  constructor
  · rintro ⟨h1, h2⟩
    refine ⟨h1, ?_⟩
    cases e : dlook D t with
    | none => rfl
    | some d =>
      have := h2 d e
      have := (h.dy t d e).2
      omega
  · rintro ⟨h1, h2⟩
    exact ⟨h1, fun e q => by rw [h2] at q; cases q⟩
theorem ansLev_L {W : Wb} {S L : List Sm} {day : Nat} {D : List (Sm × Nat)} (h : LoopI W S day L D) (s : Sm) : AnsLev W S D day s ↔ answersIn W s L = true := by
  rw [answers_iff]
  unfold AnsLev
  refine forall_congr' fun p => forall_congr' fun _ => ?_
  exact ⟨fun ⟨m, h1, h2⟩ => ⟨m, h1, (inLev_day h m).mp h2⟩, fun ⟨m, h1, h2⟩ => ⟨m, h1, (inLev_day h m).mpr h2⟩⟩
theorem loopI_step {W : Wb} {S : List Sm} {day : Nat} {L : List Sm} {D : List (Sm × Nat)} (hg : goneOf W L ≠ []) (h : LoopI W S day L D) : LoopI W S (day + 1) (L.filter fun s => decide (s ∉ goneOf W L)) (D ++ (goneOf W L).map fun s => (s, day)) := by
  have look : ∀ s, dlook (D ++ (goneOf W L).map fun s => (s, day)) s = (dlook D s).or (if s ∈ goneOf W L then some day else none) := fun s => by rw [dlook_append, dlook_map]
  have lev : ∀ d, d ≤ day → ∀ t, InLev S (D ++ (goneOf W L).map fun s => (s, day)) d t ↔ InLev S D d t := by
    intro d hd t
    unfold InLev
    refine and_congr_right fun _ => ?_
    rw [look]
    cases e : dlook D t with
    | some f => simp
    | none =>
      by_cases hm : t ∈ goneOf W L
      · rw [if_pos hm]
        simp
        omega
      · rw [if_neg hm]
        simp
  have ans : ∀ d, d ≤ day → ∀ s, AnsLev W S (D ++ (goneOf W L).map fun s => (s, day)) d s ↔ AnsLev W S D d s := by
    intro d hd s
    unfold AnsLev
    refine forall_congr' fun p => forall_congr' fun _ => ?_
    exact ⟨fun ⟨m, h1, h2⟩ => ⟨m, h1, (lev d hd m).mp h2⟩, fun ⟨m, h1, h2⟩ => ⟨m, h1, (lev d hd m).mpr h2⟩⟩
  refine ⟨List.filter_sublist.trans h.sub, fun s => ?_, fun s d e => ?_, fun s d e => ?_, fun s d hl hd => ?_, ?_, by have := gone_lt hg; have := h.sz; omega⟩
  · rw [List.mem_filter, decide_eq_true_eq, look, h.lft]
    constructor
    · rintro ⟨⟨h1, h2⟩, h3⟩
      rw [h2, if_neg h3]
      exact ⟨h1, rfl⟩
    · rintro ⟨h1, h2⟩
      cases e : dlook D s with
      | some f => rw [e] at h2; cases h2
      | none =>
        rw [e] at h2
        refine ⟨⟨h1, rfl⟩, fun hm => ?_⟩
        rw [if_pos hm] at h2
        cases h2
  · rw [look] at e
    cases q : dlook D s with
    | some f =>
      rw [q] at e
      cases e
      have := h.dy s d q
      exact ⟨this.1, by omega⟩
    | none =>
      rw [q] at e
      by_cases hm : s ∈ goneOf W L
      · rw [if_pos hm] at e
        cases e
        exact ⟨((h.lft s).mp (mem_gone.mp hm).1).1, Nat.lt_succ_self _⟩
      · rw [if_neg hm] at e
        cases e
  · rw [look] at e
    cases q : dlook D s with
    | some f =>
      rw [q] at e
      cases e
      rw [ans d (Nat.le_of_lt (h.dy s d q).2)]
      exact h.no s d q
    | none =>
      rw [q] at e
      by_cases hm : s ∈ goneOf W L
      · rw [if_pos hm] at e
        cases e
        rw [ans _ (Nat.le_refl _), ansLev_L h]
        rw [(mem_gone.mp hm).2]
        exact Bool.false_ne_true
      · rw [if_neg hm] at e
        cases e
  · rw [ans d (by omega)]
    by_cases hdd : d < day
    · exact h.yes s d ((lev (d + 1) hdd s).mp hl) hdd
    · have e : d = day := by omega
      subst e
      rw [ansLev_L h]
      have hL : s ∈ L := by
        rw [h.lft]
        refine ⟨hl.1, ?_⟩
        cases q : dlook D s with
        | none => rfl
        | some f =>
          have := hl.2 f (by rw [look, q]; rfl)
          have := (h.dy s f q).2
          omega
      cases e : answersIn W s L with
      | true => rfl
      | false =>
        have hm : s ∈ goneOf W L := mem_gone.mpr ⟨hL, e⟩
        have := hl.2 d (by rw [look, ((h.lft s).mp hL).2, if_pos hm]; rfl)
        omega
  · rw [List.length_append, List.length_map]
    have := List.length_pos_iff.mpr hg
    have := h.ln
    omega
theorem loopI_start (W : Wb) (S : List Sm) : LoopI W S 0 S [] :=
  ⟨.refl _, fun s => ⟨fun h => ⟨h, rfl⟩, fun h => h.1⟩, fun s d e => (by cases e), fun s d e => (by cases e), fun s d _ h => absurd h (Nat.not_lt_zero _), Nat.le_refl _, by rw [Nat.zero_add]; exact Nat.le_refl _⟩
theorem byDays_I (W : Wb) (k : Nat) : ∃ day, LoopI W (kSome W.1 k) day (fam W k) (byDays W k).1 ∧ goneOf W (fam W k) = [] :=
  loop_inv (W := W) (fun day L D => LoopI W (kSome W.1 k) day L D) (fun day L acc hg h => loopI_step hg h) _ 0 _ [] (Nat.lt_succ_self _) (loopI_start W _)
theorem fam_sub {W : Wb} {k : Nat} {s : Sm} (h : s ∈ fam W k) : VS W.1 s ∧ s.items.length = k := by
  obtain ⟨day, I, _⟩ := byDays_I W k
  exact kSome_mem.mp (((I.lft s).mp h).1)
theorem fam_ans {W : Wb} {k : Nat} {s : Sm} (h : s ∈ fam W k) : answersIn W s (fam W k) = true := by
  obtain ⟨day, I, hg⟩ := byDays_I W k
  cases e : answersIn W s (fam W k) with
  | true => rfl
  | false =>
    have : s ∈ goneOf W (fam W k) := mem_gone.mpr ⟨h, e⟩
    rw [hg] at this
    cases this
/-- the family is the greatest that answers -/
theorem fam_max {W : Wb} {k : Nat} {G : List Sm} (hk : ∀ s ∈ G, VS W.1 s ∧ s.items.length = k) (hG : ∀ s ∈ G, answersIn W s G = true) : ∀ s ∈ G, s ∈ fam W k := by
  obtain ⟨day, h, _⟩ := loop_inv (W := W) (fun _ L _ => ∀ s ∈ G, s ∈ L) (fun day L acc _ h s hs => mem_next.mpr ⟨h s hs, answers_mono h (hG s hs)⟩) ((kSome W.1 k).length + 1) 0 (kSome W.1 k) [] (Nat.lt_succ_self _) fun s hs => kSome_mem.mpr (hk s hs)
  exact h
end GF
set_option Elab.async false
set_option linter.all false
set_option maxRecDepth 100000
set_option maxHeartbeats 1000000
/-! plain maths: the order of some; families, fewest guards -/
namespace GF
open PySem.W
theorem ll_nil_r (l : List Nat) : listLt l [] = false := by cases l <;> rfl
theorem ll_nil (y : Nat) (l : List Nat) : listLt [] (y :: l) = true := rfl
theorem ll_cons (x y : Nat) (l m : List Nat) : listLt (x :: l) (y :: m) = true ↔ x < y ∨ (x = y ∧ listLt l m = true) := by
  show (if x = y then listLt l m else decide (x < y)) = true ↔ _
  by_cases h : x = y
  · rw [if_pos h]
    subst h
    simp
  · rw [if_neg h, decide_eq_true_eq]
    constructor
    · exact fun q => .inl q
    · rintro (q | q)
      · exact q
      · exact absurd q.1 h
theorem ll_trans : ∀ {a b c : List Nat}, listLt a b = true → listLt b c = true → listLt a c = true
  | a, b, [], _, h => by rw [ll_nil_r] at h; cases h
  | a, [], z :: c, h, _ => by rw [ll_nil_r] at h; cases h
  | [], y :: b, z :: c, _, _ => rfl
  | x :: a, y :: b, z :: c, h1, h2 => by
    rw [ll_cons] at *
    rcases h1 with h1 | ⟨h1, k1⟩
    · rcases h2 with h2 | ⟨h2, k2⟩
      · exact .inl (by omega)
      · exact .inl (by omega)
    · rcases h2 with h2 | ⟨h2, k2⟩
      · exact .inl (by omega)
      · exact .inr ⟨by omega, ll_trans k1 k2⟩
theorem ll_irrefl : ∀ a : List Nat, listLt a a = false
  | [] => rfl
  | x :: a => by
    cases e : listLt (x :: a) (x :: a) with
    | false => rfl
    | true =>
      rw [ll_cons] at e
      rcases e with e | ⟨_, e⟩
      · omega
      · rw [ll_irrefl a] at e
        cases e
theorem ll_total : ∀ {a b : List Nat}, a ≠ b → listLt a b = true ∨ listLt b a = true
  | [], [], h => absurd rfl h
  | [], _ :: _, _ => .inl rfl
  | _ :: _, [], _ => .inr rfl
  | x :: a, y :: b, h => by
    rw [ll_cons, ll_cons]
    by_cases e : x = y
    · subst e
      have : a ≠ b := fun q => h (by rw [q])
      rcases ll_total this with q | q
      · exact .inl (.inr ⟨rfl, q⟩)
      · exact .inr (.inr ⟨rfl, q⟩)
    · omega
theorem sm_lt {s t : Sm} : DatumOrd.lt s t = listLt s.items t.items := rfl
theorem leS_iff {s t : Sm} : leD s t = true ↔ s = t ∨ DatumOrd.lt s t = true := by
  show (!listLt t.items s.items) = true ↔ s = t ∨ listLt s.items t.items = true
  obtain ⟨a⟩ := s
  obtain ⟨b⟩ := t
  by_cases e : a = b
  · subst e
    rw [ll_irrefl]
    simp
  · have hne : (⟨a⟩ : Sm) ≠ ⟨b⟩ := fun q => e (Tup.mk.inj q)
    constructor
    · intro h
      rcases ll_total e with q | q
      · exact .inr q
      · rw [q] at h
        cases h
    · rintro (q | q)
      · exact absurd q hne
      · show (!listLt b a) = true
        cases r : listLt b a with
        | false => rfl
        | true =>
          have := ll_trans q r
          rw [ll_irrefl] at this
          cases this
theorem sortSm_pw (l : List Sm) : (l.mergeSort leD).Pairwise fun s t => leD s t = true := by
  refine List.pairwise_mergeSort (fun a b c x y => ?_) (fun a b => ?_) l
  · rw [leS_iff] at *
    rcases x with rfl | x
    · exact y
    · rcases y with rfl | y
      · exact .inr x
      · exact .inr (ll_trans x y)
  · rw [Bool.or_eq_true, leS_iff, leS_iff]
    by_cases e : a = b
    · exact .inl (.inl e)
    · have hne : a.items ≠ b.items := fun q => e (by cases a; cases b; exact congrArg Tup.mk q)
      rcases ll_total hne with q | q
      · exact .inl (.inr q)
      · exact .inr (.inr q)
/-- different ones, sorted: rising -/
theorem sortSm_lt {l : List Sm} (h : l.Nodup) : (l.mergeSort leD).Pairwise fun s t => DatumOrd.lt s t = true := by
  have nd : (l.mergeSort leD).Nodup := (List.mergeSort_perm l leD).nodup_iff.mpr h
  refine ((sortSm_pw l).and nd).imp fun {a b} q => ?_
  rcases leS_iff.mp q.1 with e | e
  · exact absurd e q.2
  · exact e
theorem found_nodup : ∀ n, (found n).Nodup
  | 0 => by simp [found]
  | n + 1 => by
    rw [found, List.nodup_append]
    refine ⟨found_nodup n, ?_, fun a ha b hb e => ?_⟩
    · have inj : ∀ a b : Sm, (⟨a.items ++ [n]⟩ : Sm) = ⟨b.items ++ [n]⟩ → a = b := fun a b e => by
        obtain ⟨a⟩ := a
        obtain ⟨b⟩ := b
        injection e with e
        exact congrArg Tup.mk (List.append_cancel_right e)
      exact List.Pairwise.map _ (fun a b hne e => hne (inj a b e)) (found_nodup n)
    · obtain ⟨t, ht, rfl⟩ := List.mem_map.mp hb
      have := (found_mem n a).mp ha
      subst e
      exact absurd (this.2 n (by simp)) (Nat.lt_irrefl _)
theorem allSome_lt (n : Nat) : (allSome n).Pairwise fun s t => DatumOrd.lt s t = true := sortSm_lt (found_nodup n)
theorem fam_lt (W : Wb) (k : Nat) : (fam W k).Pairwise fun s t => DatumOrd.lt s t = true := by
  obtain ⟨day, I, _⟩ := byDays_I W k
  exact (List.Pairwise.filter _ (allSome_lt W.1)).sublist I.sub
theorem fam_len {W : Wb} (hW : VW W) (k : Nat) : (fam W k).length ≤ 256 := by
  obtain ⟨day, I, _⟩ := byDays_I W k
  exact Nat.le_trans I.sub.length_le (kSome_256 hW.2.1)
/-- all places -/
def fullS (n : Nat) : Sm := ⟨List.range n⟩
theorem full_VS (n : Nat) : VS n (fullS n) := ⟨List.pairwise_lt_range, fun x hx => List.mem_range.mp hx⟩
theorem full_without (W : Wb) : without W (fullS W.1) = [] := by
  unfold without
  rw [List.filter_eq_nil_iff]
  intro x hx h
  exact (of_decide_eq_true h) hx
theorem fam_full (W : Wb) : fullS W.1 ∈ fam W W.1 := by
  refine fam_max (G := [fullS W.1]) (fun s hs => ?_) (fun s hs => ?_) _ List.mem_cons_self
  · rw [List.mem_singleton.mp hs]
    exact ⟨full_VS _, List.length_range⟩
  · rw [List.mem_singleton.mp hs, answers_iff, full_without]
    intro p hp
    cases hp
theorem hfam (W : Wb) (hW : VW W) : fam W W.1 ≠ [] := List.ne_nil_of_mem (fam_full W)
theorem least_nat (P : Nat → Prop) [DecidablePred P] : ∀ n, P n → ∃ k, k ≤ n ∧ P k ∧ ∀ j < k, ¬ P j
  | 0, h => ⟨0, Nat.le_refl _, h, fun j hj => absurd hj (Nat.not_lt_zero _)⟩
  | n + 1, h => by
    by_cases q : ∃ k, k ≤ n ∧ P k
    · obtain ⟨k, hk, pk⟩ := q
      obtain ⟨k', h1, h2, h3⟩ := least_nat P k pk
      exact ⟨k', by omega, h2, h3⟩
    · exact ⟨n + 1, Nat.le_refl _, h, fun j hj pj => q ⟨j, by omega, pj⟩⟩
theorem first_spec (W : Wb) (hW : VW W) : ∃ k, k ≤ W.1 ∧ fam W k ≠ [] ∧ (∀ j < k, fam W j = []) ∧ firstFam W = fam W k ∧ fewestGuards W = k := by
  obtain ⟨k, h1, h2, h3⟩ := least_nat (fun k => fam W k ≠ []) W.1 (hfam W hW)
  have h3' : ∀ j < k, fam W j = [] := fun j hj => Decidable.not_not.mp (h3 j hj)
  have e := firstFam_of h2 h1 h3'
  refine ⟨k, h1, h2, h3', e, ?_⟩
  obtain ⟨x, r, hx⟩ := List.exists_cons_of_ne_nil h2
  unfold fewestGuards
  rw [e, hx]
  exact (fam_sub (W := W) (k := k) (s := x) (by rw [hx]; exact List.mem_cons_self)).2
theorem hff (W : Wb) (hW : VW W) : firstFam W ≠ [] := by
  obtain ⟨k, _, h2, _, e, _⟩ := first_spec W hW
  rw [e]
  exact h2
/-- more members, more guards -/
theorem sub_len : ∀ {l m : List Nat}, l.Nodup → (∀ x ∈ l, x ∈ m) → l.length ≤ m.length
  | [], _, _, _ => Nat.zero_le _
  | x :: l, m, hn, h => by
    obtain ⟨h1, h2⟩ := List.nodup_cons.mp hn
    have hx := h x List.mem_cons_self
    have e := List.length_erase_of_mem hx
    have ih := sub_len (l := l) (m := m.erase x) h2 fun y hy => (List.mem_erase_of_ne (fun e : y = x => h1 (by rw [← e]; exact hy))).mpr (h y (List.mem_cons_of_mem _ hy))
    have := List.length_pos_of_mem hx
    simp only [List.length_cons]
    omega
theorem tied_symm (W : Wb) (a b : Nat) : tied W a b = tied W b a := by
  unfold tied
  exact Bool.or_comm _ _
/-- independent -/
def Indep (W : Wb) (l : List Nat) : Prop := ∀ x ∈ l, ∀ y ∈ l, tied W x y = false
/-- asked of independent places, one after the other, a family comes to guard them all -/
theorem gather {W : Wb} {k : Nat} (hne : fam W k ≠ []) : ∀ l : List Nat, (∀ x ∈ l, x < W.1) → Indep W l → ∃ t ∈ fam W k, ∀ x ∈ l, x ∈ t.items
  | [], _, _ => by
    obtain ⟨t, r, ht⟩ := List.exists_cons_of_ne_nil hne
    exact ⟨t, by rw [ht]; exact List.mem_cons_self, fun x hx => by cases hx⟩
  | a :: l, hl, hi => by
    obtain ⟨t, ht, hx⟩ := gather hne l (fun x hx => hl x (List.mem_cons_of_mem _ hx)) fun x hx y hy => hi x (List.mem_cons_of_mem _ hx) y (List.mem_cons_of_mem _ hy)
    by_cases ha : a ∈ t.items
    · exact ⟨t, ht, fun x h => by
        rcases List.mem_cons.mp h with rfl | h
        · exact ha
        · exact hx x h⟩
    · obtain ⟨m, hm, hmf⟩ := answers_iff.mp (fam_ans ht) a (mem_without.mpr ⟨hl a List.mem_cons_self, ha⟩)
      obtain ⟨g, hg, hgt, rfl⟩ := mem_moves.mp hm
      refine ⟨_, hmf, fun x h => ?_⟩
      rw [mvEl_mem]
      rcases List.mem_cons.mp h with rfl | h'
      · exact .inr rfl
      · refine .inl ⟨hx x h', fun e => ?_⟩
        subst e
        rw [hi x h a List.mem_cons_self] at hgt
        cases hgt
theorem indep_le {W : Wb} {k : Nat} (hne : fam W k ≠ []) {l : List Nat} (hn : l.Nodup) (hl : ∀ x ∈ l, x < W.1) (hi : Indep W l) : l.length ≤ k := by
  obtain ⟨t, ht, hx⟩ := gather hne l hl hi
  rw [← (fam_sub ht).2]
  exact sub_len hn hx
end GF
set_option Elab.async false
set_option linter.all false
set_option maxRecDepth 100000
set_option maxHeartbeats 1000000
/-! plain maths: holding, days, the best moves -/
namespace GF
open PySem.W
theorem nil_iff {l : List Nat} : (⟨l⟩ : Sm) = ⟨[]⟩ ↔ l = [] := ⟨fun h => Tup.mk.inj h, fun h => by rw [h]⟩
theorem hold_iff {W : Wb} {s : Sm} (hs : VS W.1 s) : holdAll W s = true ↔ ∀ p, p < W.1 → p ∈ s.items ∨ ∃ o ∈ s.items, tied W p o = true := by
  unfold holdAll unheld
  rw [decide_eq_true_eq, nil_iff, List.filter_eq_nil_iff]
  refine ⟨fun h p hp => ?_, fun h p hp => ?_⟩
  · have h1 := h p (List.mem_range.mpr hp)
    have h2 : holders W s p ≠ ⟨[]⟩ := fun e => h1 (decide_eq_true e)
    have h3 : (hood W p).items.filter (fun o => decide (o ∈ s.items)) ≠ [] := fun e => h2 (nil_iff.mpr e)
    obtain ⟨o, r, ho⟩ := List.exists_cons_of_ne_nil h3
    have hm : o ∈ (hood W p).items.filter (fun o => decide (o ∈ s.items)) := by rw [ho]; exact List.mem_cons_self
    obtain ⟨m1, m2⟩ := List.mem_filter.mp hm
    obtain ⟨m3, m4⟩ := List.mem_filter.mp m1
    have m2 := of_decide_eq_true m2
    rcases Bool.or_eq_true _ _ |>.mp m4 with q | q
    · exact .inl (by rw [← of_decide_eq_true q]; exact m2)
    · exact .inr ⟨o, m2, q⟩
  · have hp := List.mem_range.mp hp
    intro e
    have e := nil_iff.mp (of_decide_eq_true e)
    rw [List.filter_eq_nil_iff] at e
    rcases h p hp with q | ⟨o, q1, q2⟩
    · exact e p (List.mem_filter.mpr ⟨List.mem_range.mpr hp, by simp⟩) (decide_eq_true q)
    · exact e o (List.mem_filter.mpr ⟨List.mem_range.mpr (hs.2 o q1), by rw [q2]; simp⟩) (decide_eq_true q1)
theorem hold_of_moves {W : Wb} {s : Sm} (hs : VS W.1 s) (h : ∀ p ∈ without W s, movesOf W s p ≠ []) : holdAll W s = true := by
  rw [hold_iff hs]
  intro p hp
  by_cases hm : p ∈ s.items
  · exact .inl hm
  · obtain ⟨m, r, e⟩ := List.exists_cons_of_ne_nil (h p (mem_without.mpr ⟨hp, hm⟩))
    obtain ⟨g, hg, ht, _⟩ := mem_moves.mp (show m ∈ movesOf W s p by rw [e]; exact List.mem_cons_self)
    exact .inr ⟨g, hg, by rw [tied_symm]; exact ht⟩
theorem hold_ans {W : Wb} {s : Sm} {A : List Sm} (hs : VS W.1 s) (h : answersIn W s A = true) : holdAll W s = true := hold_of_moves hs fun p hp => by
  obtain ⟨m, hm, _⟩ := answers_iff.mp h p hp
  exact List.ne_nil_of_mem hm
/-- the first in byNumber -/
theorem head_le (g : Nat → List Sm) (hg : ∀ j, ∀ s ∈ g j, s.items.length = j) (P : Sm → Bool) : ∀ m, ∀ t ∈ (List.range m).flatMap g, P t = true → ∃ x r, ((List.range m).flatMap g).filter P = x :: r ∧ x.items.length ≤ t.items.length
  | 0, t, h, _ => by cases h
  | m + 1, t, h, hp => by
    rw [List.range_succ, List.flatMap_append, List.flatMap_singleton] at h ⊢
    rw [List.filter_append]
    rcases List.mem_append.mp h with h | h
    · obtain ⟨x, r, e, hl⟩ := head_le g hg P m t h hp
      rw [e]
      exact ⟨x, _, rfl, hl⟩
    · have ht := hg m t h
      cases e : ((List.range m).flatMap g).filter P with
      | cons x r =>
        refine ⟨x, _, rfl, ?_⟩
        have hx : x ∈ ((List.range m).flatMap g).filter P := by rw [e]; exact List.mem_cons_self
        obtain ⟨j, hj, hxj⟩ := List.mem_flatMap.mp (List.mem_filter.mp hx).1
        have := hg j x hxj
        have := List.mem_range.mp hj
        omega
      | nil =>
        have hm : t ∈ (g m).filter P := List.mem_filter.mpr ⟨h, hp⟩
        obtain ⟨x, r, hx⟩ := List.exists_cons_of_ne_nil (List.ne_nil_of_mem hm)
        refine ⟨x, r, by rw [hx]; rfl, ?_⟩
        have := hg m x (List.mem_filter.mp (by rw [hx]; exact List.mem_cons_self)).1
        omega
theorem first_holds_le {W : Wb} {t : Sm} (ht : VS W.1 t) (h : holdAll W t = true) : (byNumber W.1).filter (holdAll W) ≠ [] ∧ fewest W ≤ t.items.length := by
  have hm : t ∈ byNumber W.1 := by
    unfold byNumber
    rw [List.mem_flatMap]
    exact ⟨t.items.length, List.mem_range.mpr (Nat.lt_succ_of_le ht.len), List.mem_filter.mpr ⟨allSome_mem.mpr ht, decide_eq_true rfl⟩⟩
  obtain ⟨x, r, e, hl⟩ := head_le (fun k => (allSome W.1).filter fun s => decide (s.items.length = k)) (fun j s hs => of_decide_eq_true (List.mem_filter.mp hs).2) (holdAll W) (W.1 + 1) t hm h
  have e' : (byNumber W.1).filter (holdAll W) = x :: r := e
  rw [e']
  refine ⟨by simp, ?_⟩
  unfold fewest firstHolds
  rw [e']
  exact hl
theorem hfh (W : Wb) (hW : VW W) : (byNumber W.1).filter (holdAll W) ≠ [] :=
  (first_holds_le (full_VS W.1) (hold_of_moves (full_VS _) fun p hp => by rw [full_without] at hp; cases hp)).1
/-! the most left -/
theorem maxOf_spec : ∀ (l : List Int) (x : Int), (maxOf x l = x ∨ maxOf x l ∈ l) ∧ x ≤ maxOf x l ∧ ∀ y ∈ l, y ≤ maxOf x l
  | [], x => ⟨.inl rfl, Int.le_refl _, fun y hy => by cases hy⟩
  | y :: l, x => by
    have e : maxOf x (y :: l) = maxOf (if DatumOrd.lt x y = true then y else x) l := rfl
    obtain ⟨h1, h2, h3⟩ := maxOf_spec l (if DatumOrd.lt x y = true then y else x)
    rw [e]
    have hi : x ≤ (if DatumOrd.lt x y = true then y else x) ∧ y ≤ (if DatumOrd.lt x y = true then y else x) ∧ ((if DatumOrd.lt x y = true then y else x) = x ∨ (if DatumOrd.lt x y = true then y else x) = y) := by
      by_cases q : DatumOrd.lt x y = true
      · rw [if_pos q]
        have : x < y := of_decide_eq_true q
        exact ⟨by omega, Int.le_refl _, .inr rfl⟩
      · rw [if_neg q]
        have : ¬ x < y := fun r => q (decide_eq_true r)
        exact ⟨Int.le_refl _, by omega, .inl rfl⟩
    obtain ⟨i1, i2, i3⟩ := hi
    refine ⟨?_, by omega, fun z hz => ?_⟩
    · rcases h1 with h1 | h1
      · rcases i3 with i3 | i3
        · exact .inl (by rw [h1, i3])
        · exact .inr (by rw [h1, i3]; exact List.mem_cons_self)
      · exact .inr (List.mem_cons_of_mem _ h1)
    · rcases List.mem_cons.mp hz with rfl | hz
      · omega
      · exact h3 z hz
theorem maxOr_spec {l : List Int} {d : Int} (h : l ≠ []) : maxOr d l ∈ l ∧ ∀ y ∈ l, y ≤ maxOr d l := by
  obtain ⟨x, r, rfl⟩ := List.exists_cons_of_ne_nil h
  obtain ⟨h1, h2, h3⟩ := maxOf_spec r x
  show maxOf x r ∈ x :: r ∧ ∀ y ∈ x :: r, y ≤ maxOf x r
  refine ⟨?_, fun y hy => ?_⟩
  · rcases h1 with h1 | h1
    · rw [h1]
      exact List.mem_cons_self
    · exact List.mem_cons_of_mem _ h1
  · rcases List.mem_cons.mp hy with rfl | hy
    · exact h2
    · exact h3 y hy
theorem left_nil {D : List (Sm × Nat)} {W : Wb} {s : Sm} {p : Nat} (h : movesOf W s p = []) : leftBy D W s p = -1 := by
  unfold leftBy
  rw [h]
  rfl
theorem left_spec {D : List (Sm × Nat)} {W : Wb} {s : Sm} {p : Nat} (h : movesOf W s p ≠ []) : (∃ m ∈ movesOf W s p, dget D m = leftBy D W s p) ∧ ∀ m ∈ movesOf W s p, dget D m ≤ leftBy D W s p := by
  obtain ⟨h1, h2⟩ := maxOr_spec (l := (movesOf W s p).map (dget D)) (d := -1) (by simpa using h)
  obtain ⟨m, hm, e⟩ := List.mem_map.mp h1
  exact ⟨⟨m, hm, e⟩, fun m hm => h2 _ (List.mem_map_of_mem hm)⟩
theorem best_of {W : Wb} {s : Sm} {p : Nat} (h : movesOf W s p ≠ []) : ∃ m, bestMove W s p = some m ∧ m ∈ movesOf W s p ∧ dget (byDays W s.items.length).1 m = leftBy (byDays W s.items.length).1 W s p := by
  obtain ⟨⟨m0, h0, e0⟩, _⟩ := left_spec (D := (byDays W s.items.length).1) h
  cases e : bestMove W s p with
  | none =>
    unfold bestMove at e
    rw [List.find?_eq_none] at e
    exact absurd (decide_eq_true e0) (e m0 h0)
  | some m =>
    unfold bestMove at e
    have q := List.find?_some e
    exact ⟨m, rfl, List.mem_of_find?_eq_some e, by simpa using q⟩
/-! one number of guards -/
section
variable {W : Wb} {s : Sm}
theorem moves_k (hs : VS W.1 s) {p : Nat} (hp : p ∈ without W s) {m : Sm} (hm : m ∈ movesOf W s p) : VS W.1 m ∧ m.items.length = s.items.length := by
  obtain ⟨g, hg, _, rfl⟩ := mem_moves.mp hm
  obtain ⟨h1, h2⟩ := mem_without.mp hp
  exact mvEl_VS hs h1 h2 hg
theorem dget_some {D : List (Sm × Nat)} {m : Sm} {d : Nat} (h : dlook D m = some d) : dget D m = (d : Int) := by
  unfold dget
  rw [h]
  rfl
theorem dget_none {D : List (Sm × Nat)} {m : Sm} (h : dlook D m = none) : dget D m = ((D.length + 1 : Nat) : Int) := by
  unfold dget
  rw [h]
  rfl
theorem days_none (hs : VS W.1 s) : daysM W s = none ↔ s ∈ fam W s.items.length := by
  obtain ⟨day, I, _⟩ := byDays_I W s.items.length
  rw [I.lft]
  exact ⟨fun h => ⟨kSome_mem.mpr ⟨hs, rfl⟩, h⟩, fun h => h.2⟩
theorem fam_best (hs : s ∈ fam W s.items.length) {p : Nat} (hp : p ∈ without W s) : ∃ m, bestMove W s p = some m ∧ m ∈ movesOf W s p ∧ m ∈ fam W s.items.length := by
  obtain ⟨day, I, _⟩ := byDays_I W s.items.length
  have hv := (fam_sub hs).1
  obtain ⟨m0, h0, hf0⟩ := answers_iff.mp (fam_ans hs) p hp
  have hne := List.ne_nil_of_mem h0
  obtain ⟨m, e, hm, hd⟩ := best_of hne
  refine ⟨m, e, hm, ?_⟩
  have h2 := (left_spec (D := (byDays W s.items.length).1) hne).2 m0 h0
  rw [dget_none ((I.lft m0).mp hf0).2] at h2
  rw [I.lft]
  obtain ⟨k1, k2⟩ := moves_k hv hp hm
  refine ⟨kSome_mem.mpr ⟨k1, k2⟩, ?_⟩
  cases q : dlook (byDays W s.items.length).1 m with
  | none => rfl
  | some d =>
    rw [dget_some q] at hd
    have := (I.dy m d q).2
    have := I.ln
    omega
theorem day_facts (hs : VS W.1 s) {d : Nat} (h : daysM W s = some d) : without W s ≠ [] ∧ holdAll W s = decide (0 < d) ∧ ∀ p, WorstR W s p → (d = 0 → bestMove W s p = none) ∧ (0 < d → ∃ m, bestMove W s p = some m ∧ VS W.1 m ∧ daysM W m = some (d - 1)) := by
  obtain ⟨day, I, _⟩ := byDays_I W s.items.length
  have h' : dlook (byDays W s.items.length).1 s = some d := h
  have hday := (I.dy s d h').2
  have hln := I.ln
  obtain ⟨p0, hp0, hno⟩ : ∃ p ∈ without W s, ∀ m ∈ movesOf W s p, ∃ e, dlook (byDays W s.items.length).1 m = some e ∧ e < d := by
    refine Classical.byContradiction fun hc => I.no s d h' fun p hp => ?_
    refine Classical.byContradiction fun hc2 => hc ⟨p, hp, fun m hm => ?_⟩
    cases q : dlook (byDays W s.items.length).1 m with
    | none => exact absurd ⟨m, hm, kSome_mem.mpr (moves_k hs hp hm), fun e r => by rw [q] at r; cases r⟩ hc2
    | some e =>
      refine ⟨e, rfl, Nat.lt_of_not_le fun hde => hc2 ⟨m, hm, kSome_mem.mpr (moves_k hs hp hm), fun f r => ?_⟩⟩
      rw [q] at r
      cases r
      exact hde
  have hl0 : leftBy (byDays W s.items.length).1 W s p0 ≤ (d : Int) - 1 := by
    by_cases hm : movesOf W s p0 = []
    · rw [left_nil hm]
      omega
    · obtain ⟨⟨m, hm1, hm2⟩, _⟩ := left_spec (D := (byDays W s.items.length).1) hm
      obtain ⟨e, he, hlt⟩ := hno m hm1
      rw [← hm2, dget_some he]
      omega
  have up : 0 < d → ∀ p ∈ without W s, ∃ m ∈ movesOf W s p, ((d : Int) - 1) ≤ dget (byDays W s.items.length).1 m := by
    intro hd p hp
    obtain ⟨m, hm, hin⟩ := I.yes s (d - 1) ⟨kSome_mem.mpr ⟨hs, rfl⟩, fun e r => by rw [h'] at r; cases r; omega⟩ (by omega) p hp
    refine ⟨m, hm, ?_⟩
    cases q : dlook (byDays W s.items.length).1 m with
    | none =>
      rw [dget_none q]
      omega
    | some e =>
      have := hin.2 e q
      rw [dget_some q]
      omega
  refine ⟨List.ne_nil_of_mem hp0, ?_, fun p hpw => ⟨fun hd => ?_, fun hd => ?_⟩⟩
  · by_cases hd : 0 < d
    · rw [decide_eq_true hd]
      refine hold_of_moves hs fun p hp => ?_
      obtain ⟨m, hm, _⟩ := up hd p hp
      exact List.ne_nil_of_mem hm
    · rw [decide_eq_false hd]
      cases e : holdAll W s with
      | false => rfl
      | true =>
        obtain ⟨q1, q2⟩ := mem_without.mp hp0
        rcases (hold_iff hs).mp e p0 q1 with r | ⟨o, ho, ht⟩
        · exact absurd r q2
        · obtain ⟨e', _, hlt⟩ := hno _ (mem_moves.mpr ⟨o, ho, by rw [tied_symm]; exact ht, rfl⟩)
          omega
  · have hw := hpw.2 p0 hp0
    cases e : bestMove W s p with
    | none => rfl
    | some m =>
      unfold bestMove at e
      have hm := List.mem_of_find?_eq_some e
      have := (left_spec (D := (byDays W s.items.length).1) (List.ne_nil_of_mem hm)).2 m hm
      have h0 : (0 : Int) ≤ dget (byDays W s.items.length).1 m := by
        unfold dget
        exact Int.natCast_nonneg _
      omega
  · have hw := hpw.2 p0 hp0
    obtain ⟨m1, hm1, hge⟩ := up hd p hpw.1
    have hne := List.ne_nil_of_mem hm1
    obtain ⟨m, e, hm, hdm⟩ := best_of hne
    have hle := (left_spec (D := (byDays W s.items.length).1) hne).2 m1 hm1
    obtain ⟨k1, k2⟩ := moves_k hs hpw.1 hm
    refine ⟨m, e, k1, ?_⟩
    unfold daysM
    rw [k2]
    cases q : dlook (byDays W s.items.length).1 m with
    | none =>
      rw [dget_none q] at hdm
      omega
    | some f =>
      rw [dget_some q] at hdm
      congr 1
      omega
theorem hdl (W : Wb) (s : Sm) (d : Nat) (hW : VW W) (h : daysM W s = some d) : d ≤ 100000 := by
  obtain ⟨day, I, _⟩ := byDays_I W s.items.length
  have := (I.dy s d h).2
  have := I.sz
  have := kSome_256 (n := W.1) (k := s.items.length) hW.2.1
  omega
end
end GF
set_option Elab.async false
set_option linter.all false
set_option maxRecDepth 100000
set_option maxHeartbeats 1000000
/-! plain maths: the crowds' family; what the law asks of a web -/
namespace GF
open PySem.W
theorem crowd_tied {W : Wb} {s : Sm} (h : isCrowd W s) {x y : Nat} (hx : x ∈ s.items) (hy : y ∈ s.items) (hne : x ≠ y) : tied W x y = true := by
  obtain ⟨i, hi⟩ := List.mem_iff_getElem?.mp hx
  obtain ⟨j, hj⟩ := List.mem_iff_getElem?.mp hy
  have mem : ∀ {a b : Nat} {z : Nat}, s.items[a]? = some z → a < b → z ∈ s.items.take b := fun {a b z} h hab => by
    refine List.mem_iff_getElem?.mpr ⟨a, ?_⟩
    rw [List.getElem?_take_of_lt hab]
    exact h
  rcases Nat.lt_trichotomy i j with q | q | q
  · rw [tied_symm]
    exact h j y hj x (mem hi q)
  · subst q
    rw [hi] at hj
    exact absurd (Option.some.inj hj) hne
  · exact h i x hi y (mem hj q)
section
variable {W : Wb} {c : List Sm}
theorem CrowdsV.perm (h : CrowdsV W c) : (c.map (·.items)).flatten.Perm (List.range W.1) := by
  have := List.mergeSort_perm (c.map (·.items)).flatten (leD : Nat → Nat → Bool)
  rw [h.al] at this
  exact this.symm
theorem CrowdsV.nodup (h : CrowdsV W c) : (c.map (·.items)).flatten.Nodup := h.perm.nodup_iff.mpr List.nodup_range
theorem CrowdsV.cover (h : CrowdsV W c) {p : Nat} (hp : p < W.1) : ∃ (i : Nat) (s : Sm), c[i]? = some s ∧ p ∈ s.items := by
  have := h.perm.mem_iff.mpr (List.mem_range.mpr hp)
  obtain ⟨l, hl, hp⟩ := List.mem_flatten.mp this
  obtain ⟨s, hs, rfl⟩ := List.mem_map.mp hl
  obtain ⟨i, hi⟩ := List.mem_iff_getElem?.mp hs
  exact ⟨i, s, hi, hp⟩
theorem CrowdsV.apart (h : CrowdsV W c) {i j : Nat} {s t : Sm} {x : Nat} (hs : c[i]? = some s) (ht : c[j]? = some t) (hx : x ∈ s.items) (hy : x ∈ t.items) : i = j := by
  have nd := h.nodup
  have p := (List.pairwise_flatten.mp nd).2
  rw [List.pairwise_map] at p
  obtain ⟨h1, e1⟩ := List.getElem?_eq_some_iff.mp hs
  obtain ⟨h2, e2⟩ := List.getElem?_eq_some_iff.mp ht
  rcases Nat.lt_trichotomy i j with q | q | q
  · have := List.pairwise_iff_getElem.mp p i j h1 h2 q x (by rw [e1]; exact hx) x (by rw [e2]; exact hy)
    exact absurd rfl this
  · exact q
  · have := List.pairwise_iff_getElem.mp p j i h2 h1 q x (by rw [e2]; exact hy) x (by rw [e1]; exact hx)
    exact absurd rfl this
/-- one of each crowd -/
def Tr (c : List Sm) (l : List Nat) : Prop := l.length = c.length ∧ ∀ (i : Nat) (s : Sm) (x : Nat), c[i]? = some s → l[i]? = some x → x ∈ s.items
theorem tr_snoc {c : List Sm} {s : Sm} {l : List Nat} : Tr (c ++ [s]) l ↔ ∃ m x, l = m ++ [x] ∧ Tr c m ∧ x ∈ s.items := by
  constructor
  · rintro ⟨h1, h2⟩
    rw [List.length_append, List.length_singleton] at h1
    have hne : l ≠ [] := by
      intro e
      subst e
      simp at h1
    refine ⟨l.dropLast, l.getLast hne, (List.dropLast_concat_getLast hne).symm, ⟨by rw [List.length_dropLast]; omega, fun i t x ht hx => ?_⟩, ?_⟩
    · have hi := (List.getElem?_eq_some_iff.mp ht).1
      refine h2 i t x (by rw [List.getElem?_append_left hi]; exact ht) ?_
      rw [List.getElem?_dropLast] at hx
      split at hx
      · exact hx
      · cases hx
    · refine h2 c.length s _ (by rw [List.getElem?_append_right (Nat.le_refl _), Nat.sub_self]; rfl) ?_
      rw [List.getLast_eq_getElem, List.getElem?_eq_getElem (by omega)]
      congr 2
      omega
  · rintro ⟨m, x, rfl, ⟨h1, h2⟩, hx⟩
    refine ⟨by rw [List.length_append, List.length_append, h1]; rfl, fun i t y ht hy => ?_⟩
    by_cases hi : i < c.length
    · rw [List.getElem?_append_left hi] at ht
      rw [List.getElem?_append_left (by omega)] at hy
      exact h2 i t y ht hy
    · have hl := (List.getElem?_eq_some_iff.mp ht).1
      rw [List.length_append, List.length_singleton] at hl
      have e : i = c.length := by omega
      subst e
      rw [List.getElem?_append_right (Nat.le_refl _), Nat.sub_self] at ht
      rw [List.getElem?_append_right (by omega), h1, Nat.sub_self] at hy
      cases ht
      cases hy
      exact hx
theorem mem_crossed_take {one : Sm} : ∀ i, i ≤ c.length → (one ∈ crossed (c.take i) ↔ Tr (c.take i) one.items) := by
  intro i
  induction i generalizing one with
  | zero =>
    intro _
    show one ∈ [(⟨[]⟩ : Sm)] ↔ Tr [] one.items
    rw [List.mem_singleton]
    constructor
    · rintro rfl
      exact ⟨rfl, fun i s x h => by cases h⟩
    · rintro ⟨h, _⟩
      obtain ⟨l⟩ := one
      have : l = [] := List.eq_nil_of_length_eq_zero h
      rw [this]
  | succ i ih =>
    intro hi
    have hc : c[i]? = some c[i] := List.getElem?_eq_getElem (by omega)
    rw [crossed_take hc, take_succ_at hc, tr_snoc, List.mem_flatMap]
    constructor
    · rintro ⟨o, ho, h⟩
      obtain ⟨p, hp, rfl⟩ := List.mem_map.mp h
      exact ⟨o.items, p, rfl, (ih (by omega)).mp ho, hp⟩
    · rintro ⟨m, x, e, hm, hx⟩
      refine ⟨⟨m⟩, (ih (one := ⟨m⟩) (by omega)).mpr hm, List.mem_map.mpr ⟨x, hx, ?_⟩⟩
      obtain ⟨l⟩ := one
      exact congrArg Tup.mk e.symm
theorem mem_crossed {one : Sm} : one ∈ crossed c ↔ Tr c one.items := by
  have := mem_crossed_take (c := c) (one := one) c.length (Nat.le_refl _)
  rwa [List.take_length] at this
theorem Tr.nodup (h : CrowdsV W c) {l : List Nat} (t : Tr c l) : l.Nodup := by
  refine List.pairwise_iff_getElem.mpr fun i j hi hj hij e => ?_
  have l1 := t.1
  have e1 : l[i]? = some l[i] := List.getElem?_eq_getElem hi
  have e2 : l[j]? = some l[j] := List.getElem?_eq_getElem hj
  have c1 : c[i]? = some c[i] := List.getElem?_eq_getElem (by omega)
  have c2 : c[j]? = some c[j] := List.getElem?_eq_getElem (by omega)
  have m1 := t.2 i _ _ c1 e1
  have m2 := t.2 j _ _ c2 e2
  rw [← e] at m2
  have := h.apart c1 c2 m1 m2
  omega
theorem Tr.lt (h : CrowdsV W c) {l : List Nat} (t : Tr c l) {x : Nat} (hx : x ∈ l) : x < W.1 := by
  obtain ⟨i, hi⟩ := List.mem_iff_getElem?.mp hx
  have l1 := t.1
  have hil := (List.getElem?_eq_some_iff.mp hi).1
  have c1 : c[i]? = some c[i] := List.getElem?_eq_getElem (by omega)
  exact (h.vs _ (List.mem_of_getElem? c1)).1.2 x (t.2 i _ _ c1 hi)
theorem mem_cf {m : Sm} : m ∈ crowdFamily c ↔ ∃ l, Tr c l ∧ m = sortS l := by
  unfold crowdFamily
  rw [List.mem_mergeSort, List.mem_map]
  constructor
  · rintro ⟨one, h, rfl⟩
    exact ⟨one.items, mem_crossed.mp h, rfl⟩
  · rintro ⟨l, h, rfl⟩
    exact ⟨⟨l⟩, mem_crossed.mpr h, rfl⟩
theorem cf_VS (h : CrowdsV W c) {m : Sm} (hm : m ∈ crowdFamily c) : VS W.1 m ∧ m.items.length = c.length := by
  obtain ⟨l, t, rfl⟩ := mem_cf.mp hm
  exact ⟨⟨sortS_pw (t.nodup h), fun x hx => t.lt h (sortS_mem.mp hx)⟩, by rw [sortS_len]; exact t.1⟩
theorem crossed_nodup (h : CrowdsV W c) : ∀ i, i ≤ c.length → (crossed (c.take i)).Nodup := by
  intro i
  induction i with
  | zero =>
    intro _
    show [(⟨[]⟩ : Sm)].Nodup
    simp
  | succ i ih =>
    intro hi
    have hc : c[i]? = some c[i] := List.getElem?_eq_getElem (by omega)
    rw [crossed_take hc]
    refine List.pairwise_flatMap.mpr ⟨fun o _ => ?_, (ih (by omega)).imp fun {a b} hne x hx y hy e => ?_⟩
    · refine List.Pairwise.map _ (fun a b hne e => hne ?_) (h.vs _ (List.mem_of_getElem? hc)).1.nodup
      have e := List.append_cancel_left (Tup.mk.inj e)
      exact (List.cons.inj e).1
    · obtain ⟨p, _, rfl⟩ := List.mem_map.mp hx
      obtain ⟨q, _, rfl⟩ := List.mem_map.mp hy
      have e := Tup.mk.inj e
      have e2 := (List.append_inj' e rfl).1
      exact hne (by cases a; cases b; exact congrArg Tup.mk e2)
theorem Tr.inj (h : CrowdsV W c) {l m : List Nat} (tl : Tr c l) (tm : Tr c m) (e : ∀ x, x ∈ l ↔ x ∈ m) : l = m := by
  refine List.ext_getElem? fun i => ?_
  have l1 := tl.1
  have m1 := tm.1
  by_cases hi : i < c.length
  · have el : l[i]? = some l[i] := List.getElem?_eq_getElem (by omega)
    have c1 : c[i]? = some c[i] := List.getElem?_eq_getElem hi
    obtain ⟨j, hj⟩ := List.mem_iff_getElem?.mp ((e _).mp (List.mem_of_getElem? el))
    have hjl := (List.getElem?_eq_some_iff.mp hj).1
    have c2 : c[j]? = some c[j] := List.getElem?_eq_getElem (by omega)
    have := h.apart c1 c2 (tl.2 i _ _ c1 el) (tm.2 j _ _ c2 hj)
    subst this
    rw [el, hj]
  · rw [List.getElem?_eq_none (by omega), List.getElem?_eq_none (by omega)]
theorem cf_lt (h : CrowdsV W c) : (crowdFamily c).Pairwise fun s t => DatumOrd.lt s t = true := by
  refine sortSm_lt ?_
  have nd := crossed_nodup h c.length (Nat.le_refl _)
  rw [List.take_length] at nd
  rw [List.Nodup, List.pairwise_map]
  refine nd.imp_of_mem fun {a b} ha hb hne e => hne ?_
  have := (mem_crossed.mp ha).inj h (mem_crossed.mp hb) fun x => by
    rw [← sortS_mem (l := a.items), ← sortS_mem (l := b.items), e]
  cases a
  cases b
  exact congrArg Tup.mk this
theorem cf_ans (h : CrowdsV W c) {m : Sm} (hm : m ∈ crowdFamily c) : answersIn W m (crowdFamily c) = true := by
  obtain ⟨l, t, rfl⟩ := mem_cf.mp hm
  rw [answers_iff]
  intro p hp
  obtain ⟨hp1, hp2⟩ := mem_without.mp hp
  have hpl : p ∉ l := fun q => hp2 (sortS_mem.mpr q)
  obtain ⟨i, s, hs, hps⟩ := h.cover hp1
  have l1 := t.1
  have hi := (List.getElem?_eq_some_iff.mp hs).1
  have el : l[i]? = some l[i] := List.getElem?_eq_getElem (by omega)
  generalize hg : l[i] = g at el
  have hgs := t.2 i s g hs el
  have hgl := List.mem_of_getElem? el
  have hne : g ≠ p := fun e => hpl (e ▸ hgl)
  have ht := crowd_tied (h.cr s (List.mem_of_getElem? hs)) hgs hps hne
  have t2 : Tr c (l.set i p) := ⟨by rw [List.length_set]; exact l1, fun j u x hu hx => by
    rw [List.getElem?_set] at hx
    by_cases q : i = j
    · subst q
      rw [if_pos rfl, if_pos (by omega)] at hx
      cases hx
      rw [hs] at hu
      cases hu
      exact hps
    · rw [if_neg q] at hx
      exact t.2 j u x hu hx⟩
  refine ⟨mvEl (sortS l) p g, mem_moves.mpr ⟨g, sortS_mem.mpr hgl, ht, rfl⟩, mem_cf.mpr ⟨l.set i p, t2, ?_⟩⟩
  have hv := cf_VS h (mem_cf.mpr ⟨l, t, rfl⟩)
  refine VS.ext (n := W.1) (mvEl_VS hv.1 hp1 hp2 (sortS_mem.mpr hgl)).1.1 (sortS_pw (t2.nodup h)) fun x => ?_
  rw [mvEl_mem, sortS_mem, sortS_mem, List.mem_iff_getElem?, List.mem_iff_getElem?]
  constructor
  · rintro (⟨⟨j, hj⟩, hxg⟩ | rfl)
    · refine ⟨j, ?_⟩
      rw [List.getElem?_set, if_neg]
      · exact hj
      · intro q
        subst q
        rw [el] at hj
        exact hxg (Option.some.inj hj).symm
    · exact ⟨i, by rw [List.getElem?_set, if_pos rfl, if_pos (by omega)]⟩
  · rintro ⟨j, hj⟩
    rw [List.getElem?_set] at hj
    by_cases q : i = j
    · subst q
      rw [if_pos rfl, if_pos (by omega)] at hj
      exact .inr (Option.some.inj hj).symm
    · rw [if_neg q] at hj
      refine .inl ⟨⟨j, hj⟩, fun e => q ?_⟩
      subst e
      have nd := t.nodup h
      obtain ⟨a1, a2⟩ := List.getElem?_eq_some_iff.mp el
      obtain ⟨b1, b2⟩ := List.getElem?_eq_some_iff.mp hj
      rcases Nat.lt_trichotomy i j with r | r | r
      · exact absurd (a2.trans b2.symm) (List.pairwise_iff_getElem.mp nd i j a1 b1 r)
      · exact r
      · exact absurd (b2.trans a2.symm) (List.pairwise_iff_getElem.mp nd j i b1 a1 r)
theorem cf_ne (h : CrowdsV W c) : crowdFamily c ≠ [] := by
  have t : Tr c (c.map fun s => s.items.headD 0) := ⟨List.length_map _, fun i s x hs hx => by
    rw [List.getElem?_map, hs] at hx
    cases hx
    obtain ⟨y, r, e⟩ := List.exists_cons_of_ne_nil (h.vs s (List.mem_of_getElem? hs)).2
    show s.items.headD 0 ∈ s.items
    rw [e]
    exact List.mem_cons_self⟩
  exact List.ne_nil_of_mem (mem_cf.mpr ⟨_, t, rfl⟩)
theorem cf_fam (h : CrowdsV W c) {m : Sm} (hm : m ∈ crowdFamily c) : m ∈ fam W c.length :=
  fam_max (G := crowdFamily c) (fun s hs => cf_VS h hs) (fun s hs => cf_ans h hs) m hm
end
theorem fewCrowds_row {W : Wb} : fewCrowds W = fewRow W := by
  rw [fewCrowds_eq]
  have ok := partings_ok W W.1 _ (fewRow_mem W).1
  refine List.mergeSort_of_pairwise ?_
  refine ok.hd.imp_of_mem fun {s t} hs ht h => leS_iff.mpr (.inr ?_)
  obtain ⟨x, r, e1⟩ := List.exists_cons_of_ne_nil (ok.vs s hs).2
  obtain ⟨y, q, e2⟩ := List.exists_cons_of_ne_nil (ok.vs t ht).2
  rw [e1, e2] at h
  rw [sm_lt, e1, e2, ll_cons]
  exact .inl h
theorem few_crd (W : Wb) : CrowdsV W (fewCrowds W) := by
  have ok := partings_ok W W.1 _ (fewRow_mem W).1
  rw [fewCrowds_row]
  refine ⟨ok.vs, ?_, ?_, ok.cr⟩
  · refine ok.hd.imp_of_mem fun {s t} hs ht h => ?_
    obtain ⟨x, r, e1⟩ := List.exists_cons_of_ne_nil (ok.vs s hs).2
    obtain ⟨y, q, e2⟩ := List.exists_cons_of_ne_nil (ok.vs t ht).2
    rw [e1, e2] at h
    rw [sm_lt, e1, e2, ll_cons]
    exact .inl h
  · have nd : (((fewRow W).map (·.items)).flatten).Nodup := ok.pm.nodup_iff.mpr List.nodup_range
    exact rising_ext (sortS_pw nd) List.pairwise_lt_range fun x => by
      rw [List.mem_mergeSort]
      exact ok.pm.mem_iff
theorem few_len (W : Wb) {c : List Sm} (hc : c ∈ partings W W.1) : (fewCrowds W).length ≤ c.length := by
  rw [fewCrowds_row, (fewRow_mem W).2]
  exact (leastLen_spec (partings_ne W W.1)).2 c hc
theorem tied_self {W : Wb} (hW : VW W) (x : Nat) : tied W x x = false := by
  unfold tied
  have : (x, x) ∉ W.2.items := fun h => by
    have := (hW.2.2.1 _ h).1
    exact absurd this (Nat.lt_irrefl _)
  rw [decide_eq_false this]
  rfl
theorem untied_indep {W : Wb} (hW : VW W) {s : Sm} (h : untiedGood W s = true) : Indep W s.items := by
  have pre : ∀ i x, s.items[i]? = some x → ∀ o ∈ s.items.take i, tied W x o = false := by
    intro i x hx o ho
    have := List.all_eq_true.mp h (i, x) (List.mem_of_getElem? (numd_get hx))
    unfold fits at this
    rw [Bool.and_eq_true, Bool.not_eq_true', List.any_eq_false] at this
    have q := this.2 (tied W x o) (List.mem_map_of_mem ho)
    simpa using q
  have mem : ∀ {a b : Nat} {z : Nat}, s.items[a]? = some z → a < b → z ∈ s.items.take b := fun {a b z} h hab => by
    refine List.mem_iff_getElem?.mpr ⟨a, ?_⟩
    rw [List.getElem?_take_of_lt hab]
    exact h
  intro x hx y hy
  obtain ⟨i, hi⟩ := List.mem_iff_getElem?.mp hx
  obtain ⟨j, hj⟩ := List.mem_iff_getElem?.mp hy
  rcases Nat.lt_trichotomy i j with q | q | q
  · rw [tied_symm]
    exact pre j y hj x (mem hi q)
  · subst q
    rw [hi] at hj
    cases hj
    exact tied_self hW x
  · exact pre i x hi y (mem hj q)
theorem firstUntied_ok (W : Wb) : VS W.1 (firstUntied W) ∧ untiedGood W (firstUntied W) = true ∧ (firstUntied W).items.length = mostLen (untiedRows W) := by
  have h1 := List.mem_filter.mp (List.mem_of_getElem? (firstUntied_at W))
  have h2 := List.mem_filter.mp h1.1
  exact ⟨allSome_mem.mp h2.1, h2.2, of_decide_eq_true h1.2⟩
theorem hLF (W : Wb) (hW : VW W) : LF W := by
  obtain ⟨k, k1, k2, k3, k4, k5⟩ := first_spec W hW
  have u := firstUntied_ok W
  have cd := few_crd W
  have mem : ∀ s ∈ firstFam W, s ∈ fam W k := fun s hs => by rw [k4] at hs; exact hs
  have memk : ∀ s ∈ firstFam W, s ∈ fam W s.items.length := fun s hs => by rw [(fam_sub (mem s hs)).2]; exact mem s hs
  have h3 : fewestGuards W ≤ (fewCrowds W).length := by
    rw [k5]
    refine Nat.le_of_not_lt fun hlt => ?_
    obtain ⟨m, r, hm⟩ := List.exists_cons_of_ne_nil (cf_ne cd)
    have := cf_fam cd (m := m) (by rw [hm]; exact List.mem_cons_self)
    rw [k3 _ hlt] at this
    cases this
  refine ⟨?_, ?_, h3, ⟨u.1, u.2.1⟩, cd, cf_ne cd, fun s hs => (cf_VS cd hs).1, cf_lt cd, fun s hs => cf_ans cd hs, fun s hs => ?_, ?_, ?_, ?_, ?_, ?_, ?_, ?_, ?_, ?_, fun s hs => (days_none hs).mp, fun s d hs h => day_facts hs h⟩
  · obtain ⟨x, r, hx⟩ := List.exists_cons_of_ne_nil k2
    have hm : x ∈ fam W k := by rw [hx]; exact List.mem_cons_self
    have := (first_holds_le (fam_sub hm).1 (hold_ans (fam_sub hm).1 (fam_ans hm))).2
    rw [(fam_sub hm).2] at this
    rw [k5]
    exact this
  · rw [k5]
    exact indep_le k2 u.1.nodup u.1.2 (untied_indep hW u.2.1)
  · rw [(cf_VS cd hs).2]
    exact cf_fam cd hs
  · rw [k5, k4]
  · rw [k5]
    exact k1
  · rw [k4]
    exact k2
  · intro s hs
    rw [k5]
    exact fam_sub (mem s hs)
  · rw [k4]
    exact fam_lt W k
  · intro s hs
    have := fam_ans (mem s hs)
    rw [k4]
    exact this
  · intro s hs
    have hv := (fam_sub (mem s hs)).1
    exact ⟨(days_none hv).mpr (memk s hs), hold_ans hv (fam_ans (mem s hs))⟩
  · intro s hs p hp
    obtain ⟨m, e, hm, hf⟩ := fam_best (memk s hs) hp
    refine ⟨m, e, hm, ?_⟩
    rw [(fam_sub (mem s hs)).2] at hf
    rw [k4]
    exact hf
  · rw [k4]
    exact fam_len hW k
end GF
set_option Elab.async false
set_option linter.all false
set_option maxRecDepth 100000
set_option maxHeartbeats 1000000
/-! plain maths: trees -/
namespace GF
open PySem.W
theorem mem_tree {n : Nat} {p : Nat → Nat} {q : Nat × Nat} : q ∈ (treeW n p).2.items ↔ ∃ b, 1 ≤ b ∧ b < n ∧ q = (p b, b) := by
  unfold treeW
  rw [List.mem_mergeSort, List.mem_map]
  constructor
  · rintro ⟨b, hb, rfl⟩
    obtain ⟨a, ha, rfl⟩ := List.mem_map.mp hb
    have := List.mem_range.mp ha
    exact ⟨a + 1, by omega, by omega, rfl⟩
  · rintro ⟨b, h1, h2, rfl⟩
    exact ⟨b, List.mem_map.mpr ⟨b - 1, List.mem_range.mpr (by omega), by omega⟩, rfl⟩
theorem tree_tied {n : Nat} {p : Nat → Nat} {a b : Nat} : tied (treeW n p) a b = true ↔ (1 ≤ b ∧ b < n ∧ a = p b) ∨ (1 ≤ a ∧ a < n ∧ b = p a) := by
  unfold tied
  rw [Bool.or_eq_true, decide_eq_true_eq, decide_eq_true_eq, mem_tree, mem_tree]
  constructor
  · rintro (⟨c, h1, h2, e⟩ | ⟨c, h1, h2, e⟩)
    · cases e
      exact .inl ⟨h1, h2, rfl⟩
    · cases e
      exact .inr ⟨h1, h2, rfl⟩
  · rintro (⟨h1, h2, e⟩ | ⟨h1, h2, e⟩)
    · subst e
      exact .inl ⟨b, h1, h2, rfl⟩
    · subst e
      exact .inr ⟨a, h1, h2, rfl⟩
theorem tree_free {n : Nat} {p : Nat → Nat} (hp : ∀ b, 1 ≤ b → b < n → p b < b) {k v : Nat} (hv : v < k) (h : ¬ (1 ≤ k ∧ k < n ∧ v = p k)) : tied (treeW n p) k v = false := by
  cases e : tied (treeW n p) k v with
  | false => rfl
  | true =>
    rcases tree_tied.mp e with ⟨h1, h2, h3⟩ | h'
    · have := hp v h1 h2
      omega
    · exact absurd h' h
theorem tree_self {n : Nat} {p : Nat → Nat} (hp : ∀ b, 1 ≤ b → b < n → p b < b) (k : Nat) : tied (treeW n p) k k = false := by
  cases e : tied (treeW n p) k k with
  | false => rfl
  | true =>
    rcases tree_tied.mp e with ⟨h1, h2, h3⟩ | ⟨h1, h2, h3⟩ <;>
    · have := hp k h1 h2
      omega
theorem indep_cons {W : Wb} {k : Nat} {I : List Nat} (hk : tied W k k = false) (h : ∀ v ∈ I, tied W k v = false) (hi : Indep W I) : Indep W (k :: I) := by
  intro x hx y hy
  rcases List.mem_cons.mp hx with ex | hx
  · rcases List.mem_cons.mp hy with ey | hy
    · rw [ex, ey]
      exact hk
    · rw [ex]
      exact h y hy
  · rcases List.mem_cons.mp hy with ey | hy
    · rw [ey, tied_symm]
      exact h x hx
    · exact hi x hx y hy
theorem greedy {n : Nat} {p : Nat → Nat} (hp : ∀ b, 1 ≤ b → b < n → p b < b) : ∀ k, k ≤ n → ∀ M : List Nat, ∃ (I : List Nat) (f : Nat → Nat), I.Nodup ∧ (∀ v ∈ I, v < k ∧ v ∉ M) ∧ Indep (treeW n p) I ∧ (∀ x, x < k → x ∉ M → f x ∈ I) ∧
    (∀ x y, x < k → y < k → x ∉ M → y ∉ M → x ≠ y → f x = f y → tied (treeW n p) x y = true)
  | 0, _, M => ⟨[], id, List.nodup_nil, fun v hv => (by cases hv), fun x hx => (by cases hx), fun x hx => absurd hx (Nat.not_lt_zero _), fun x y hx => absurd hx (Nat.not_lt_zero _)⟩
  | k + 1, hk, M => by
    by_cases hkM : k ∈ M
    · obtain ⟨I, f, h1, h2, h3, h4, h5⟩ := greedy hp k (by omega) M
      have lt : ∀ x, x < k + 1 → x ∉ M → x < k := fun x hx hm => by
        have : x ≠ k := fun e => hm (e ▸ hkM)
        omega
      exact ⟨I, f, h1, fun v hv => ⟨by have := (h2 v hv).1; omega, (h2 v hv).2⟩, h3, fun x hx hm => h4 x (lt x hx hm) hm, fun x y hx hy mx my => h5 x y (lt x hx mx) (lt y hy my) mx my⟩
    · by_cases hq : 1 ≤ k ∧ p k ∉ M
      · obtain ⟨I, f, h1, h2, h3, h4, h5⟩ := greedy hp k (by omega) (p k :: M)
        have hpk := hp k hq.1 (by omega)
        have hout : ∀ x, x < k + 1 → x ∉ M → ¬ (x = k ∨ x = p k) → x < k ∧ x ∉ p k :: M := fun x hx hm hne => by
          refine ⟨by omega, fun h => ?_⟩
          rcases List.mem_cons.mp h with e | h
          · exact hne (.inr e)
          · exact hm h
        refine ⟨k :: I, fun x => if x = k ∨ x = p k then k else f x, List.nodup_cons.mpr ⟨fun h => absurd (h2 k h).1 (Nat.lt_irrefl _), h1⟩, fun v hv => ?_, indep_cons (tree_self hp k) (fun v hv => ?_) h3, fun x hx hm => ?_, fun x y hx hy mx my hne e => ?_⟩
        · rcases List.mem_cons.mp hv with rfl | hv
          · exact ⟨Nat.lt_succ_self _, hkM⟩
          · exact ⟨by have := (h2 v hv).1; omega, fun h => (h2 v hv).2 (List.mem_cons_of_mem _ h)⟩
        · refine tree_free hp (h2 v hv).1 fun h => (h2 v hv).2 ?_
          rw [h.2.2]
          exact List.mem_cons_self
        · show (if x = k ∨ x = p k then k else f x) ∈ k :: I
          by_cases c : x = k ∨ x = p k
          · rw [if_pos c]
            exact List.mem_cons_self
          · rw [if_neg c]
            obtain ⟨a, b⟩ := hout x hx hm c
            exact List.mem_cons_of_mem _ (h4 x a b)
        · have e : (if x = k ∨ x = p k then k else f x) = (if y = k ∨ y = p k then k else f y) := e
          by_cases cx : x = k ∨ x = p k
          · by_cases cy : y = k ∨ y = p k
            · rw [tree_tied]
              rcases cx with cx | cx
              · rcases cy with cy | cy
                · omega
                · exact .inr ⟨by omega, by omega, by rw [cx]; exact cy⟩
              · rcases cy with cy | cy
                · exact .inl ⟨by omega, by omega, by rw [cy]; exact cx⟩
                · omega
            · rw [if_pos cx, if_neg cy] at e
              obtain ⟨a, b⟩ := hout y hy my cy
              have := (h2 _ (h4 y a b)).1
              omega
          · by_cases cy : y = k ∨ y = p k
            · rw [if_neg cx, if_pos cy] at e
              obtain ⟨a, b⟩ := hout x hx mx cx
              have := (h2 _ (h4 x a b)).1
              omega
            · rw [if_neg cx, if_neg cy] at e
              obtain ⟨a, b⟩ := hout x hx mx cx
              obtain ⟨a', b'⟩ := hout y hy my cy
              exact h5 x y a a' b b' hne e
      · obtain ⟨I, f, h1, h2, h3, h4, h5⟩ := greedy hp k (by omega) M
        refine ⟨k :: I, fun x => if x = k then k else f x, List.nodup_cons.mpr ⟨fun h => absurd (h2 k h).1 (Nat.lt_irrefl _), h1⟩, fun v hv => ?_, indep_cons (tree_self hp k) (fun v hv => ?_) h3, fun x hx hm => ?_, fun x y hx hy mx my hne e => ?_⟩
        · rcases List.mem_cons.mp hv with rfl | hv
          · exact ⟨Nat.lt_succ_self _, hkM⟩
          · exact ⟨by have := (h2 v hv).1; omega, (h2 v hv).2⟩
        · refine tree_free hp (h2 v hv).1 fun h => hq ⟨h.1, ?_⟩
          rw [← h.2.2]
          exact (h2 v hv).2
        · show (if x = k then k else f x) ∈ k :: I
          by_cases c : x = k
          · rw [if_pos c]
            exact List.mem_cons_self
          · rw [if_neg c]
            exact List.mem_cons_of_mem _ (h4 x (by omega) hm)
        · have e : (if x = k then k else f x) = (if y = k then k else f y) := e
          by_cases cx : x = k
          · by_cases cy : y = k
            · omega
            · rw [if_pos cx, if_neg cy] at e
              have := (h2 _ (h4 y (by omega) my)).1
              omega
          · by_cases cy : y = k
            · rw [if_neg cx, if_pos cy] at e
              have := (h2 _ (h4 x (by omega) mx)).1
              omega
            · rw [if_neg cx, if_neg cy] at e
              exact h5 x y (by omega) (by omega) mx my hne e
/-- every way to name the places, those of one name all tied, is a parting -/
theorem partings_of (W : Wb) (f : Nat → Nat) : ∀ k, (∀ x y, x < k → y < k → x ≠ y → f x = f y → tied W x y = true) → ∃ c ∈ partings W k, (∀ s ∈ c, ∀ x ∈ s.items, ∀ y ∈ s.items, f x = f y) ∧ c.Pairwise fun s t => ∀ x ∈ s.items, ∀ y ∈ t.items, f x ≠ f y
  | 0, _ => ⟨[], by simp [partings], fun s hs => (by cases hs), .nil⟩
  | k + 1, h => by
    obtain ⟨c, hc, hu, hd⟩ := partings_of W f k fun x y hx hy => h x y (by omega) (by omega)
    have ok := partings_ok W k c hc
    by_cases hex : ∃ s ∈ c, ∃ x ∈ s.items, f x = f k
    · obtain ⟨s, hs, x, hx, hfx⟩ := hex
      obtain ⟨i, hi⟩ := List.mem_iff_getElem?.mp hs
      have all : ∀ y ∈ s.items, f y = f k := fun y hy => (hu s hs y hy x hx).trans hfx
      have sp := split_at hi
      have same : ∀ y ∈ (⟨s.items ++ [k]⟩ : Sm).items, f y = f k := fun y hy => by
        rcases List.mem_append.mp hy with hy | hy
        · exact all y hy
        · rw [List.mem_singleton.mp hy]
      refine ⟨c.take i ++ [⟨s.items ++ [k]⟩] ++ c.drop (i + 1), ?_, fun t ht y hy z hz => ?_, ?_⟩
      · rw [partings, List.mem_flatMap]
        refine ⟨c, hc, List.mem_append_left _ ?_⟩
        unfold putAt
        refine List.mem_map.mpr ⟨(i, s), List.mem_filter.mpr ⟨List.mem_of_getElem? (numd_get hi), ?_⟩, rfl⟩
        rw [List.all_map, List.all_eq_true]
        intro o ho
        have := (ok.vs s hs).1.2 o ho
        exact h k o (by omega) (by omega) (by omega) (all o ho).symm
      · rw [List.append_assoc, List.mem_append, List.mem_append, List.mem_singleton] at ht
        rcases ht with ht | rfl | ht
        · exact hu t (List.mem_of_mem_take ht) y hy z hz
        · rw [same y hy, same z hz]
        · exact hu t (List.mem_of_mem_drop ht) y hy z hz
      · rw [sp] at hd
        obtain ⟨p1, p2, p3⟩ := List.pairwise_append.mp hd
        obtain ⟨p4, p5⟩ := List.pairwise_cons.mp p2
        rw [List.append_assoc]
        refine List.pairwise_append.mpr ⟨p1, List.pairwise_cons.mpr ⟨fun b hb y hy z hz => ?_, p5⟩, fun a ha b hb y hy z hz => ?_⟩
        · rw [same y hy, ← hfx]
          exact p4 b hb x hx z hz
        · rcases List.mem_cons.mp hb with rfl | hb
          · rw [same z hz, ← hfx]
            exact p3 a ha s List.mem_cons_self y hy x hx
          · exact p3 a ha b (List.mem_cons_of_mem _ hb) y hy z hz
    · refine ⟨c ++ [⟨[k]⟩], ?_, fun t ht y hy z hz => ?_, ?_⟩
      · rw [partings, List.mem_flatMap]
        exact ⟨c, hc, List.mem_append_right _ (by simp)⟩
      · rcases List.mem_append.mp ht with ht | ht
        · exact hu t ht y hy z hz
        · rw [List.mem_singleton] at ht
          subst ht
          rw [List.mem_singleton.mp hy, List.mem_singleton.mp hz]
      · refine List.pairwise_append.mpr ⟨hd, List.pairwise_singleton _ _, fun a ha b hb y hy z hz => ?_⟩
        rw [List.mem_singleton] at hb
        subst hb
        rw [List.mem_singleton.mp hz]
        exact fun e => hex ⟨a, ha, y, hy, e⟩
theorem indep_untied {W : Wb} {s : Sm} (hr : s.items.Pairwise (· < ·)) (h : Indep W s.items) : untiedGood W s = true := by
  unfold untiedGood
  rw [List.all_eq_true]
  intro q hq
  obtain ⟨j, hj⟩ := List.mem_iff_getElem?.mp hq
  obtain ⟨e1, e2⟩ := numd_at (xs := s.items) hj
  unfold fits
  rw [Bool.and_eq_true, decide_eq_true_eq, Bool.not_eq_true', List.any_eq_false]
  refine ⟨fun hm => ?_, fun b hb => ?_⟩
  · obtain ⟨i, hi⟩ := List.mem_iff_getElem?.mp hm
    have hi : (s.items.take q.1)[i]? = some q.2 := hi
    have hl := (List.getElem?_eq_some_iff.mp hi).1
    rw [List.length_take, e1] at hl
    rw [List.getElem?_take_of_lt (by omega)] at hi
    obtain ⟨a1, a2⟩ := List.getElem?_eq_some_iff.mp hi
    obtain ⟨b1, b2⟩ := List.getElem?_eq_some_iff.mp e2
    have := List.pairwise_iff_getElem.mp hr i j a1 b1 (by omega)
    omega
  · obtain ⟨o, ho, rfl⟩ := List.mem_map.mp hb
    have := h q.2 (List.mem_of_getElem? e2) o (List.mem_of_mem_take ho)
    rw [this]
    decide
theorem hT (n : Nat) (p : Nat → Nat) (h1 : 1 ≤ n) (h8 : n ≤ 8) (hp : ∀ b, 1 ≤ b → b < n → p b < b) : TF (treeW n p) := by
  have hW := tree_VW h1 h8 hp
  have L := hLF _ hW
  obtain ⟨I, f, g1, g2, g3, g4, g5⟩ := greedy hp n (Nat.le_refl _) []
  obtain ⟨c, hc, hu, hd⟩ := partings_of (treeW n p) f n fun x y hx hy => g5 x y hx hy (by simp) (by simp)
  have ok := partings_ok _ n c hc
  have hI : VS n (sortS I) := ⟨sortS_pw g1, fun x hx => (g2 x (sortS_mem.mp hx)).1⟩
  have hrow : sortS I ∈ untiedRows (treeW n p) := List.mem_filter.mpr ⟨allSome_mem.mpr hI, indep_untied hI.1 fun x hx y hy => g3 x (sortS_mem.mp hx) y (sortS_mem.mp hy)⟩
  have k1 : I.length ≤ mostUntied (treeW n p) := by
    have := (mostLen_spec (untiedRows_ne (treeW n p))).2 _ hrow
    rw [sortS_len] at this
    have e := (firstUntied_ok (treeW n p)).2.2
    unfold mostUntied
    omega
  have k2 : c.length ≤ I.length := by
    have e : (c.map fun s => f (s.items.headD 0)).length = c.length := List.length_map _
    rw [← e]
    have hh : ∀ s ∈ c, s.items.headD 0 ∈ s.items := fun s hs => by
      obtain ⟨y, r, e⟩ := List.exists_cons_of_ne_nil (ok.vs s hs).2
      rw [e]
      exact List.mem_cons_self
    refine sub_len ?_ fun x hx => ?_
    · rw [List.Nodup, List.pairwise_map]
      exact hd.imp_of_mem fun {s t} hs ht h => h _ (hh s hs) _ (hh t ht)
    · obtain ⟨s, hs, rfl⟩ := List.mem_map.mp hx
      exact g4 _ ((ok.vs s hs).1.2 _ (hh s hs)) (by simp)
  have k3 : (fewCrowds (treeW n p)).length ≤ c.length := few_len (treeW n p) hc
  have := L.le2
  have := L.le3
  exact ⟨by omega, by omega⟩
end GF
set_option Elab.async false
set_option linter.all false
set_option maxRecDepth 100000
set_option maxHeartbeats 0
namespace GF
open PySem PySem.Spec PyProof.Rows L2
def ddOf (x : Str) (i : Nat) : He.DefD := ⟨(x, none), x, x, defArgs (top i), defBody (top i), defScope (top i), [], []⟩
def defsL : List He.DefD := [ddOf "is_whole" 9, ddOf "is_from" 10, ddOf "is_tie" 11, ddOf "is_web" 12, ddOf "must_web" 13, ddOf "is_place" 14, ddOf "are_places" 15, ddOf "must_places" 16, ddOf "must_number" 17, ddOf "tied" 18, ddOf "hood_of" 19, ddOf "all_some" 20, ddOf "by_number" 21, ddOf "moves_of" 24, ddOf "must_asked" 25, ddOf "moves" 26, ddOf "without_guard" 27, ddOf "answers_in" 28, ddOf "is_lasting" 29, ddOf "by_days" 30, ddOf "family_of" 31, ddOf "first_family" 32, ddOf "fewest_guards" 33, ddOf "first_guards" 34, ddOf "days" 35, ddOf "left_by" 36, ddOf "worst_asking" 37, ddOf "best_move" 38, ddOf "holders_of" 40, ddOf "unheld_by" 41, ddOf "hold_all" 42, ddOf "holds_all" 43, ddOf "fits" 45, ddOf "untied_good" 46, ddOf "is_untied" 48, ddOf "first_most_untied" 49, ddOf "most_untied" 50, ddOf "first_untied" 51, ddOf "is_crowd" 52, ddOf "crowds_good" 53, ddOf "partings" 54, ddOf "few_crowds" 55, ddOf "fewest_crowds" 56, ddOf "first_crowds" 57, ddOf "crowd_family" 58, ddOf "first_that_holds" 60, ddOf "fewest" 61, ddOf "_law_cell_at" 63, ddOf "_law_stir" 64, ddOf "_law_web" 65, ddOf "_law_some" 66, ddOf "_law_kept" 67, ddOf "_law_beaten" 68, ddOf "_law_right" 69, ddOf "law" 70]
def factsL : List He.Fa := [.glo "is_whole", .glo "is_from", .glo "is_tie", .glo "is_web", .glo "must_web", .glo "is_place", .glo "are_places", .glo "must_places", .glo "must_number", .glo "tied", .glo "hood_of", .glo "all_some", .glo "by_number", .glo "moves_of", .glo "must_asked", .glo "moves", .glo "without_guard", .glo "answers_in", .glo "is_lasting", .glo "by_days", .glo "family_of", .glo "first_family", .glo "fewest_guards", .glo "first_guards", .glo "days", .glo "left_by", .glo "worst_asking", .glo "best_move", .glo "holders_of", .glo "unheld_by", .glo "hold_all", .glo "holds_all", .glo "fits", .glo "untied_good", .glo "is_untied", .glo "first_most_untied", .glo "most_untied", .glo "first_untied", .glo "is_crowd", .glo "crowds_good", .glo "partings", .glo "few_crowds", .glo "fewest_crowds", .glo "first_crowds", .glo "crowd_family", .glo "first_that_holds", .glo "fewest", .glo "_law_cell_at", .glo "_law_stir", .glo "_law_web", .glo "_law_some", .glo "_law_kept", .glo "_law_beaten", .glo "_law_right", .glo "law", .free "isinstance", .free "len", .free "int", .free "bool", .free "tuple", .free "list", .free "range", .free "enumerate", .free "zip", .free "sorted", .free "any", .free "all", .free "max", .free "min", .free "sum", .int "MOST_PLACES" 8, .int "NO_MOVE" (-1)]
def names1 : List Str := [("PlaceError" : Str), ("NoWeb" : Str), ("NoPlaces" : Str), ("NoPlace" : Str), ("NoNumber" : Str), ("NoCrowds" : Str), ("MOST_PLACES" : Str), ("is_whole" : Str), ("is_from" : Str), ("is_tie" : Str), ("is_web" : Str), ("must_web" : Str), ("is_place" : Str), ("are_places" : Str), ("must_places" : Str), ("must_number" : Str), ("tied" : Str), ("hood_of" : Str), ("all_some" : Str), ("by_number" : Str), ("NO_MOVE" : Str), ("moves_of" : Str), ("must_asked" : Str), ("moves" : Str), ("without_guard" : Str), ("answers_in" : Str), ("is_lasting" : Str), ("by_days" : Str), ("family_of" : Str), ("first_family" : Str), ("fewest_guards" : Str), ("first_guards" : Str), ("days" : Str), ("left_by" : Str), ("worst_asking" : Str)]
def names2 : List Str := [("best_move" : Str), ("holders_of" : Str), ("unheld_by" : Str), ("hold_all" : Str), ("holds_all" : Str), ("fits" : Str), ("untied_good" : Str), ("is_untied" : Str), ("first_most_untied" : Str), ("most_untied" : Str), ("first_untied" : Str), ("is_crowd" : Str), ("crowds_good" : Str), ("partings" : Str), ("few_crowds" : Str), ("fewest_crowds" : Str), ("first_crowds" : Str), ("crowd_family" : Str), ("first_that_holds" : Str), ("fewest" : Str), ("_law_cell_at" : Str), ("_law_stir" : Str), ("_law_web" : Str), ("_law_some" : Str), ("_law_kept" : Str), ("_law_beaten" : Str), ("_law_right" : Str)]
abbrev theRow : PySem.W.OpenRow := PySem.W.OpenLaw.row PySem.Challenge.rw_holdplaces_k78_whole_guards_for_ever
abbrev theHook : PySem.W.Hook := He.hookD 4 factsL defsL
def obs0 (s : PySem.W.SharedT) : He.AlD := He.obsDG 4 factsL defsL (HandSHeadRun.getT s)
theorem obs0_eq (s : PySem.W.SharedT) : obs0 s = theHook.obs s.abs := He.obsDG_eq (HandSHeadRun.getT_eq s)
theorem headRun (w : World) : HandSHeadRun.RunEq theRow (PySem.W.view theRow.prog [70]) theHook obs0 4000 (names1 ++ names2) w := by
  intro os
  kernel_rfl
theorem allFacts {P : Program} {w : World} {K : PySem.W.Frag} {h : Heap} {mg : Str → Option Value} {f : Addr} (X : K.In h) (G : h.Ns mainGlobals mg) (hfa : mg ("law" : Str) = some (.ref f)) (c : He.SaysD factsL defsL K) :
    ∃ fd : FuncData, (∀ (s : Shared) (v : Value), BindsTo s fd ⟨[v], []⟩ [("_law_script", v)]) ∧ ∀ base : Heap, K.In base → base.Ns mainGlobals mg → FnOk P w K mg base CX0 10 f fd ["_law_script"] (SpD K (p_law K)) := by
  obtain ⟨g9, F9⟩ := c.def_ 0 (d := ddOf "is_whole" 9) rfl
  obtain ⟨g10, F10⟩ := c.def_ 1 (d := ddOf "is_from" 10) rfl
  obtain ⟨g11, F11⟩ := c.def_ 2 (d := ddOf "is_tie" 11) rfl
  obtain ⟨g12, F12⟩ := c.def_ 3 (d := ddOf "is_web" 12) rfl
  obtain ⟨g13, F13⟩ := c.def_ 4 (d := ddOf "must_web" 13) rfl
  obtain ⟨g14, F14⟩ := c.def_ 5 (d := ddOf "is_place" 14) rfl
  obtain ⟨g15, F15⟩ := c.def_ 6 (d := ddOf "are_places" 15) rfl
  obtain ⟨g16, F16⟩ := c.def_ 7 (d := ddOf "must_places" 16) rfl
  obtain ⟨g17, F17⟩ := c.def_ 8 (d := ddOf "must_number" 17) rfl
  obtain ⟨g18, F18⟩ := c.def_ 9 (d := ddOf "tied" 18) rfl
  obtain ⟨g19, F19⟩ := c.def_ 10 (d := ddOf "hood_of" 19) rfl
  obtain ⟨g20, F20⟩ := c.def_ 11 (d := ddOf "all_some" 20) rfl
  obtain ⟨g21, F21⟩ := c.def_ 12 (d := ddOf "by_number" 21) rfl
  obtain ⟨g24, F24⟩ := c.def_ 13 (d := ddOf "moves_of" 24) rfl
  obtain ⟨g25, F25⟩ := c.def_ 14 (d := ddOf "must_asked" 25) rfl
  obtain ⟨g26, F26⟩ := c.def_ 15 (d := ddOf "moves" 26) rfl
  obtain ⟨g27, F27⟩ := c.def_ 16 (d := ddOf "without_guard" 27) rfl
  obtain ⟨g28, F28⟩ := c.def_ 17 (d := ddOf "answers_in" 28) rfl
  obtain ⟨g29, F29⟩ := c.def_ 18 (d := ddOf "is_lasting" 29) rfl
  obtain ⟨g30, F30⟩ := c.def_ 19 (d := ddOf "by_days" 30) rfl
  obtain ⟨g31, F31⟩ := c.def_ 20 (d := ddOf "family_of" 31) rfl
  obtain ⟨g32, F32⟩ := c.def_ 21 (d := ddOf "first_family" 32) rfl
  obtain ⟨g33, F33⟩ := c.def_ 22 (d := ddOf "fewest_guards" 33) rfl
  obtain ⟨g34, F34⟩ := c.def_ 23 (d := ddOf "first_guards" 34) rfl
  obtain ⟨g35, F35⟩ := c.def_ 24 (d := ddOf "days" 35) rfl
  obtain ⟨g36, F36⟩ := c.def_ 25 (d := ddOf "left_by" 36) rfl
  obtain ⟨g37, F37⟩ := c.def_ 26 (d := ddOf "worst_asking" 37) rfl
  obtain ⟨g38, F38⟩ := c.def_ 27 (d := ddOf "best_move" 38) rfl
  obtain ⟨g40, F40⟩ := c.def_ 28 (d := ddOf "holders_of" 40) rfl
  obtain ⟨g41, F41⟩ := c.def_ 29 (d := ddOf "unheld_by" 41) rfl
  obtain ⟨g42, F42⟩ := c.def_ 30 (d := ddOf "hold_all" 42) rfl
  obtain ⟨g43, F43⟩ := c.def_ 31 (d := ddOf "holds_all" 43) rfl
  obtain ⟨g45, F45⟩ := c.def_ 32 (d := ddOf "fits" 45) rfl
  obtain ⟨g46, F46⟩ := c.def_ 33 (d := ddOf "untied_good" 46) rfl
  obtain ⟨g48, F48⟩ := c.def_ 34 (d := ddOf "is_untied" 48) rfl
  obtain ⟨g49, F49⟩ := c.def_ 35 (d := ddOf "first_most_untied" 49) rfl
  obtain ⟨g50, F50⟩ := c.def_ 36 (d := ddOf "most_untied" 50) rfl
  obtain ⟨g51, F51⟩ := c.def_ 37 (d := ddOf "first_untied" 51) rfl
  obtain ⟨g52, F52⟩ := c.def_ 38 (d := ddOf "is_crowd" 52) rfl
  obtain ⟨g53, F53⟩ := c.def_ 39 (d := ddOf "crowds_good" 53) rfl
  obtain ⟨g54, F54⟩ := c.def_ 40 (d := ddOf "partings" 54) rfl
  obtain ⟨g55, F55⟩ := c.def_ 41 (d := ddOf "few_crowds" 55) rfl
  obtain ⟨g56, F56⟩ := c.def_ 42 (d := ddOf "fewest_crowds" 56) rfl
  obtain ⟨g57, F57⟩ := c.def_ 43 (d := ddOf "first_crowds" 57) rfl
  obtain ⟨g58, F58⟩ := c.def_ 44 (d := ddOf "crowd_family" 58) rfl
  obtain ⟨g60, F60⟩ := c.def_ 45 (d := ddOf "first_that_holds" 60) rfl
  obtain ⟨g61, F61⟩ := c.def_ 46 (d := ddOf "fewest" 61) rfl
  obtain ⟨g63, F63⟩ := c.def_ 47 (d := ddOf "_law_cell_at" 63) rfl
  obtain ⟨g64, F64⟩ := c.def_ 48 (d := ddOf "_law_stir" 64) rfl
  obtain ⟨g65, F65⟩ := c.def_ 49 (d := ddOf "_law_web" 65) rfl
  obtain ⟨g66, F66⟩ := c.def_ 50 (d := ddOf "_law_some" 66) rfl
  obtain ⟨g67, F67⟩ := c.def_ 51 (d := ddOf "_law_kept" 67) rfl
  obtain ⟨g68, F68⟩ := c.def_ 52 (d := ddOf "_law_beaten" 68) rfl
  obtain ⟨g69, F69⟩ := c.def_ 53 (d := ddOf "_law_right" 69) rfl
  obtain ⟨g70, F70⟩ := c.def_ 54 (d := ddOf "law" 70) rfl
  have e := hfa.symm.trans (He.glo_ok X G (c.fact 54 (f := .glo "law") rfl))
  cases e
  have m9 := He.glo_ok X G (c.fact 0 (f := .glo "is_whole") rfl)
  have m10 := He.glo_ok X G (c.fact 1 (f := .glo "is_from") rfl)
  have m11 := He.glo_ok X G (c.fact 2 (f := .glo "is_tie") rfl)
  have m12 := He.glo_ok X G (c.fact 3 (f := .glo "is_web") rfl)
  have m13 := He.glo_ok X G (c.fact 4 (f := .glo "must_web") rfl)
  have m14 := He.glo_ok X G (c.fact 5 (f := .glo "is_place") rfl)
  have m15 := He.glo_ok X G (c.fact 6 (f := .glo "are_places") rfl)
  have m16 := He.glo_ok X G (c.fact 7 (f := .glo "must_places") rfl)
  have m17 := He.glo_ok X G (c.fact 8 (f := .glo "must_number") rfl)
  have m18 := He.glo_ok X G (c.fact 9 (f := .glo "tied") rfl)
  have m19 := He.glo_ok X G (c.fact 10 (f := .glo "hood_of") rfl)
  have m20 := He.glo_ok X G (c.fact 11 (f := .glo "all_some") rfl)
  have m21 := He.glo_ok X G (c.fact 12 (f := .glo "by_number") rfl)
  have m24 := He.glo_ok X G (c.fact 13 (f := .glo "moves_of") rfl)
  have m25 := He.glo_ok X G (c.fact 14 (f := .glo "must_asked") rfl)
  have m26 := He.glo_ok X G (c.fact 15 (f := .glo "moves") rfl)
  have m27 := He.glo_ok X G (c.fact 16 (f := .glo "without_guard") rfl)
  have m28 := He.glo_ok X G (c.fact 17 (f := .glo "answers_in") rfl)
  have m29 := He.glo_ok X G (c.fact 18 (f := .glo "is_lasting") rfl)
  have m30 := He.glo_ok X G (c.fact 19 (f := .glo "by_days") rfl)
  have m31 := He.glo_ok X G (c.fact 20 (f := .glo "family_of") rfl)
  have m32 := He.glo_ok X G (c.fact 21 (f := .glo "first_family") rfl)
  have m33 := He.glo_ok X G (c.fact 22 (f := .glo "fewest_guards") rfl)
  have m34 := He.glo_ok X G (c.fact 23 (f := .glo "first_guards") rfl)
  have m35 := He.glo_ok X G (c.fact 24 (f := .glo "days") rfl)
  have m36 := He.glo_ok X G (c.fact 25 (f := .glo "left_by") rfl)
  have m37 := He.glo_ok X G (c.fact 26 (f := .glo "worst_asking") rfl)
  have m38 := He.glo_ok X G (c.fact 27 (f := .glo "best_move") rfl)
  have m40 := He.glo_ok X G (c.fact 28 (f := .glo "holders_of") rfl)
  have m41 := He.glo_ok X G (c.fact 29 (f := .glo "unheld_by") rfl)
  have m42 := He.glo_ok X G (c.fact 30 (f := .glo "hold_all") rfl)
  have m43 := He.glo_ok X G (c.fact 31 (f := .glo "holds_all") rfl)
  have m45 := He.glo_ok X G (c.fact 32 (f := .glo "fits") rfl)
  have m46 := He.glo_ok X G (c.fact 33 (f := .glo "untied_good") rfl)
  have m48 := He.glo_ok X G (c.fact 34 (f := .glo "is_untied") rfl)
  have m49 := He.glo_ok X G (c.fact 35 (f := .glo "first_most_untied") rfl)
  have m50 := He.glo_ok X G (c.fact 36 (f := .glo "most_untied") rfl)
  have m51 := He.glo_ok X G (c.fact 37 (f := .glo "first_untied") rfl)
  have m52 := He.glo_ok X G (c.fact 38 (f := .glo "is_crowd") rfl)
  have m53 := He.glo_ok X G (c.fact 39 (f := .glo "crowds_good") rfl)
  have m54 := He.glo_ok X G (c.fact 40 (f := .glo "partings") rfl)
  have m55 := He.glo_ok X G (c.fact 41 (f := .glo "few_crowds") rfl)
  have m56 := He.glo_ok X G (c.fact 42 (f := .glo "fewest_crowds") rfl)
  have m57 := He.glo_ok X G (c.fact 43 (f := .glo "first_crowds") rfl)
  have m58 := He.glo_ok X G (c.fact 44 (f := .glo "crowd_family") rfl)
  have m60 := He.glo_ok X G (c.fact 45 (f := .glo "first_that_holds") rfl)
  have m61 := He.glo_ok X G (c.fact 46 (f := .glo "fewest") rfl)
  have m63 := He.glo_ok X G (c.fact 47 (f := .glo "_law_cell_at") rfl)
  have m64 := He.glo_ok X G (c.fact 48 (f := .glo "_law_stir") rfl)
  have m65 := He.glo_ok X G (c.fact 49 (f := .glo "_law_web") rfl)
  have m66 := He.glo_ok X G (c.fact 50 (f := .glo "_law_some") rfl)
  have m67 := He.glo_ok X G (c.fact 51 (f := .glo "_law_kept") rfl)
  have m68 := He.glo_ok X G (c.fact 52 (f := .glo "_law_beaten") rfl)
  have m69 := He.glo_ok X G (c.fact 53 (f := .glo "_law_right") rfl)
  have m70 := He.glo_ok X G (c.fact 54 (f := .glo "law") rfl)
  have hB : Bls mg := ⟨He.free_ok X G (c.fact 55 (f := .free "isinstance") rfl), He.free_ok X G (c.fact 56 (f := .free "len") rfl), He.free_ok X G (c.fact 57 (f := .free "int") rfl), He.free_ok X G (c.fact 58 (f := .free "bool") rfl), He.free_ok X G (c.fact 59 (f := .free "tuple") rfl), He.free_ok X G (c.fact 60 (f := .free "list") rfl), He.free_ok X G (c.fact 61 (f := .free "range") rfl), He.free_ok X G (c.fact 62 (f := .free "enumerate") rfl), He.free_ok X G (c.fact 63 (f := .free "zip") rfl), He.free_ok X G (c.fact 64 (f := .free "sorted") rfl), He.free_ok X G (c.fact 65 (f := .free "any") rfl), He.free_ok X G (c.fact 66 (f := .free "all") rfl), He.free_ok X G (c.fact 67 (f := .free "max") rfl), He.free_ok X G (c.fact 68 (f := .free "min") rfl), He.free_ok X G (c.fact 69 (f := .free "sum") rfl)⟩
  have hM := He.int_ok X G (c.fact 70 (f := .int "MOST_PLACES" 8) rfl)
  have hN := He.int_ok X G (c.fact 71 (f := .int "NO_MOVE" (-1)) rfl)
  have b := FunD.bindsA (ps := ["_law_script"]) F70 fun _ _ _ _ _ _ us hl => match us, hl with | [_], _ => rfl
  refine ⟨g70, fun s v => b s [v] rfl, fun base _ _ => ?_⟩
  have C_is_whole : Cal P w K mg base "is_whole" 1 (SpD K (p_is_whole K)) := ok_is_whole F9 m9 hB  
  have C_is_from : Cal P w K mg base "is_from" 2 (SpD K (p_is_from K)) := ok_is_from F10 m10 hB C_is_whole 
  have C_is_tie : Cal P w K mg base "is_tie" 3 (SpD K (p_is_tie K)) := ok_is_tie F11 m11 hB C_is_from 
  have C_is_web : Cal P w K mg base "is_web" 4 (SpD K (p_is_web K)) := ok_is_web F12 m12 hB C_is_from C_is_tie hM
  have C_must_web : Cal P w K mg base "must_web" 5 (SpD K (p_must_web K)) := ok_must_web F13 m13 hB C_is_web 
  have C_is_place : Cal P w K mg base "is_place" 3 (SpD K (p_is_place K)) := ok_is_place F14 m14 hB C_is_from 
  have C_are_places : Cal P w K mg base "are_places" 4 (SpD K (p_are_places K)) := ok_are_places F15 m15 hB C_is_place 
  have C_must_places : Cal P w K mg base "must_places" 5 (SpD K (p_must_places K)) := ok_must_places F16 m16 hB C_are_places 
  have C_must_number : Cal P w K mg base "must_number" 3 (SpD K (p_must_number K)) := ok_must_number F17 m17 hB C_is_from 
  have C_tied : Cal P w K mg base "tied" 1 (SpD K (p_tied K)) := ok_tied F18 m18 hB  
  have C_hood_of : Cal P w K mg base "hood_of" 2 (SpD K (p_hood_of K)) := ok_hood_of F19 m19 hB C_tied 
  have C_all_some : Cal P w K mg base "all_some" 1 (SpD K (p_all_some K)) := ok_all_some F20 m20 hB  
  have C_by_number : Cal P w K mg base "by_number" 2 (SpD K (p_by_number K)) := ok_by_number F21 m21 hB C_all_some 
  have C_moves_of : Cal P w K mg base "moves_of" 2 (SpD K (p_moves_of K)) := ok_moves_of F24 m24 hB C_tied 
  have C_must_asked : Cal P w K mg base "must_asked" 6 (SpD K (p_must_asked K)) := ok_must_asked F25 m25 hB C_must_web C_must_places C_is_place 
  have C_moves : Cal P w K mg base "moves" 7 (SpD K (p_moves K)) := ok_moves F26 m26 hB C_must_asked C_moves_of 
  have C_without_guard : Cal P w K mg base "without_guard" 1 (SpD K (p_without_guard K)) := ok_without_guard F27 m27 hB  
  have C_answers_in : Cal P w K mg base "answers_in" 3 (SpD K (p_answers_in K)) := ok_answers_in F28 m28 hB C_without_guard C_moves_of 
  have C_is_lasting : Cal P w K mg base "is_lasting" 6 (SpD K (p_is_lasting K)) := ok_is_lasting F29 m29 hB C_must_web C_answers_in C_are_places 
  have C_by_days : Cal P w K mg base "by_days" 4 (SpD K (p_by_days P w K)) := ok_by_days F30 m30 hB C_all_some C_answers_in 
  have C_family_of : Cal P w K mg base "family_of" 6 (SpD K (p_family_of K)) := ok_family_of F31 m31 hB C_must_web C_must_number C_by_days 
  have C_first_family : Cal P w K mg base "first_family" 5 (SpD K (p_first_family K)) := ok_first_family F32 m32 hB C_by_days (fun W hW => hfam W hW)
  have C_fewest_guards : Cal P w K mg base "fewest_guards" 6 (SpD K (p_fewest_guards K)) := ok_fewest_guards F33 m33 hB C_must_web C_first_family hff
  have C_first_guards : Cal P w K mg base "first_guards" 6 (SpD K (p_first_guards K)) := ok_first_guards F34 m34 hB C_must_web C_first_family hff
  have C_days : Cal P w K mg base "days" 6 (SpD K (p_days K)) := ok_days F35 m35 hB C_must_web C_must_places C_by_days 
  have C_left_by : Cal P w K mg base "left_by" 3 (SpV (p_left_by P w K)) := ok_left_by F36 m36 hB C_moves_of hN
  have C_worst_asking : Cal P w K mg base "worst_asking" 6 (SpD K (p_worst_asking K)) := ok_worst_asking F37 m37 hB C_must_web C_must_places C_without_guard C_by_days C_left_by 
  have C_best_move : Cal P w K mg base "best_move" 7 (SpD K (p_best_move K)) := ok_best_move F38 m38 hB C_must_asked C_left_by C_moves_of C_by_days 
  have C_holders_of : Cal P w K mg base "holders_of" 3 (SpD K (p_holders_of K)) := ok_holders_of F40 m40 hB C_hood_of 
  have C_unheld_by : Cal P w K mg base "unheld_by" 4 (SpD K (p_unheld_by K)) := ok_unheld_by F41 m41 hB C_holders_of 
  have C_hold_all : Cal P w K mg base "hold_all" 5 (SpD K (p_hold_all K)) := ok_hold_all F42 m42 hB C_unheld_by 
  have C_holds_all : Cal P w K mg base "holds_all" 6 (SpD K (p_holds_all K)) := ok_holds_all F43 m43 hB C_must_web C_must_places C_hold_all 
  have C_fits : Cal P w K mg base "fits" 2 (SpD K (p_fits K)) := ok_fits F45 m45 hB C_tied 
  have C_untied_good : Cal P w K mg base "untied_good" 3 (SpD K (p_untied_good K)) := ok_untied_good F46 m46 hB C_fits 
  have C_is_untied : Cal P w K mg base "is_untied" 6 (SpD K (p_is_untied K)) := ok_is_untied F48 m48 hB C_must_web C_must_places C_untied_good 
  have C_first_most_untied : Cal P w K mg base "first_most_untied" 4 (SpD K (p_first_most_untied K)) := ok_first_most_untied F49 m49 hB C_all_some C_untied_good 
  have C_most_untied : Cal P w K mg base "most_untied" 6 (SpD K (p_most_untied K)) := ok_most_untied F50 m50 hB C_must_web C_first_most_untied 
  have C_first_untied : Cal P w K mg base "first_untied" 6 (SpD K (p_first_untied K)) := ok_first_untied F51 m51 hB C_must_web C_first_most_untied 
  have C_is_crowd : Cal P w K mg base "is_crowd" 2 (SpD K (p_is_crowd K)) := ok_is_crowd F52 m52 hB C_tied 
  have C_crowds_good : Cal P w K mg base "crowds_good" 5 (SpD K (p_crowds_good K)) := ok_crowds_good F53 m53 hB C_is_crowd C_are_places 
  have C_partings : Cal P w K mg base "partings" 2 (SpD K (p_partings K)) := ok_partings F54 m54 hB C_tied 
  have C_few_crowds : Cal P w K mg base "few_crowds" 3 (SpD K (p_few_crowds K)) := ok_few_crowds F55 m55 hB C_partings 
  have C_fewest_crowds : Cal P w K mg base "fewest_crowds" 6 (SpD K (p_fewest_crowds K)) := ok_fewest_crowds F56 m56 hB C_must_web C_few_crowds 
  have C_first_crowds : Cal P w K mg base "first_crowds" 6 (SpD K (p_first_crowds K)) := ok_first_crowds F57 m57 hB C_must_web C_few_crowds 
  have C_crowd_family : Cal P w K mg base "crowd_family" 6 (SpD K (p_crowd_family K)) := ok_crowd_family F58 m58 hB C_must_web C_crowds_good 
  have C_first_that_holds : Cal P w K mg base "first_that_holds" 6 (SpD K (p_first_that_holds K)) := ok_first_that_holds F60 m60 hB C_by_number C_hold_all hfh
  have C_fewest : Cal P w K mg base "fewest" 7 (SpD K (p_fewest K)) := ok_fewest F61 m61 hB C_must_web C_first_that_holds 
  have C__law_cell_at : Cal P w K mg base "_law_cell_at" 1 (SpD K (p__law_cell_at K)) := ok__law_cell_at F63 m63 hB  
  have C__law_stir : Cal P w K mg base "_law_stir" 1 (SpD K (p__law_stir K)) := ok__law_stir F64 m64 hB  
  have C__law_web : Cal P w K mg base "_law_web" 2 (SpD K (p__law_web K)) := ok__law_web F65 m65 hB C__law_stir 
  have C__law_some : Cal P w K mg base "_law_some" 1 (SpD K (p__law_some K)) := ok__law_some F66 m66 hB  
  have C__law_kept : Cal P w K mg base "_law_kept" 8 (SpD K (p__law_kept K)) := ok__law_kept F67 m67 hB C_family_of C_first_guards C_fewest_guards C_is_lasting C_holds_all C_best_move C_days C_moves C__law_stir hLF
  have C__law_beaten : Cal P w K mg base "_law_beaten" 8 (SpD K (p__law_beaten K)) := ok__law_beaten F68 m68 hB C_days C_worst_asking C_best_move C_family_of C_holds_all hLF hdl
  have C__law_right : Cal P w K mg base "_law_right" 9 (SpD K (p__law_right K)) := ok__law_right F69 m69 hB C_fewest_guards C_crowd_family C__law_kept C_is_untied C_first_crowds C_is_lasting C_fewest_crowds C_first_untied C_family_of C__law_beaten C_fewest C_most_untied C__law_some C__law_stir hLF
  exact ok_law F70 m70 hB C__law_cell_at C__law_right C__law_web C__law_stir C_fewest_guards C_most_untied C_fewest_crowds hT
end GF
open PySem PySem.W PySem.Calls PyProof.Rows
theorem PySem.Challenge.cw_holdplaces_k78_whole_guards_for_ever_holds : PySem.Challenge.rw_holdplaces_k78_whole_guards_for_ever.Holds := by
  w_on; o_law
  refine HandSHeadRun.head_any (r := OpenLaw.row PySem.Challenge.rw_holdplaces_k78_whole_guards_for_ever) (q := view (OpenLaw.row PySem.Challenge.rw_holdplaces_k78_whole_guards_for_ever).prog [70]) (H := GF.theHook) (ob := GF.obs0) (M := 4000) (loose := GF.names1 ++ GF.names2) (d := HandSHeadRun.topDef (OpenLaw.row PySem.Challenge.rw_holdplaces_k78_whole_guards_for_ever).prog 70) (kwd := []) GF.obs0_eq
    (by kernel_rfl) (fun s => by kernel_rfl) GF.headRun (by kernel_rfl) (by kernel_rfl) (by kernel_rfl) (by rfl) (by first | assumption | decide +kernel) (by decide +kernel) ⟨rfl, rfl, rfl, rfl, rfl, by decide +kernel⟩ ?hw ?hc
  case hw => w_witness2
  case hc =>
    refine L2.walk_ofE (l := PySem.Challenge.rw_holdplaces_k78_whole_guards_for_ever) (n := 63) (k := 10) (x := "_law_script") (CX := L2.CX0) rfl (by decide) (by kernel_rfl) ⟨rfl, by decide, by decide⟩ ?F (fun _ _ _ _ z => z)
    intro w mg fa h Y G hmg0
    obtain ⟨K, KX, c⟩ := Y
    have hmg : mg ("law" : PySem.Str) = some (.ref fa) := by
      have e : (HandSHeadRun.topDef (OpenLaw.row PySem.Challenge.rw_holdplaces_k78_whole_guards_for_ever).prog 70).name = ("law" : PySem.Str) := by kernel_rfl
      rw [← e]
      exact hmg0
    obtain ⟨fd, hb, hF⟩ := GF.allFacts (P := (PySem.Challenge.rw_holdplaces_k78_whole_guards_for_ever).prog) (w := w) KX G hmg c
    exact ⟨K, fd, GF.SpD K (GF.p_law K), KX, hb, fun H a ns hl _ hS => ⟨[Datum.toD ns], _, .cons (GF.dd_ofL hS (GF.ints_dds ns)) .nil, ⟨ns, rfl, Nat.le_trans hl (by decide), rfl⟩, fun v H' _ d => GF.dd_bl d⟩, hF⟩
