import PyProof.Rows.All
import Wide.All
import OpenK.AllK
import Wide.FinOn
import HandS.ForMost
import HandS.IsInst
import HandS.Zip
import HandS.Defaults
import HandS.Flow
import HandS.CallLocal
import HandS.NoneIn
import HandS.Style
import HandS.SortKw
import HandS.SetKeys
import HandS.DictComp
import HandS.Deep
import HandS.TupLe
import HandS.TupAny
import HandS.TupSets
import HandS.SetBool
import HandS.Nested
import KE.SortData
import KE.KDictKeyed
import KE.SortKeyed
import HandS.Keys
import HandS.Conv
import KE.KMinKey
import KE.SortKeyHeap
import KE.GoesEnumKw
import HandS.Walk
import KE.KUnpackStar
import PyProof.PureInt
import HandS.Finally
import KE.KStateDown
import KE.KNestM
import Lean
import HandS.Head0
import HandS.Head1
import HandS.Head2
import HandS.HeadHook1
import HandS.HeadHook2
import HandS.HeadHook3
import HandS.HeadHook4
import HandS.HeadWalk
import PySem.Challenge.RW_waycircuits_k21_whole_count_by_rows
set_option Elab.async false
set_option linter.all false
set_option maxRecDepth 100000
/-! W1: data on the abstract heap, and what is asked of it: ==, <, in. -/
namespace Wc
open PySem PySem.Spec PyProof.Rows L2

/-! ### reading data -/
theorem seqT {K : PySem.W.Frag} {H H' : Hp} {a : Addr} {xs : List V} (e : Same H H') (h : SqT K H a xs) : SqT K H' a xs := by
  rcases h with (h | ⟨o, h⟩) | h
  · exact Or.inl (Or.inl (e _ _ h))
  · exact Or.inl (Or.inr ⟨o, e _ _ h⟩)
  · exact Or.inr h
/-- every tuple that could be read can be read -/
def Tk (K : PySem.W.Frag) (H H' : Hp) : Prop := ∀ a xs, SqT K H a xs → SqT K H' a xs
theorem Tk.refl (K : PySem.W.Frag) (H : Hp) : Tk K H H := fun _ _ h => h
theorem Tk.trans {K : PySem.W.Frag} {H H1 H2 : Hp} (a : Tk K H H1) (b : Tk K H1 H2) : Tk K H H2 := fun c xs h => b c xs (a c xs h)
theorem Tk.same {K : PySem.W.Frag} {H H' : Hp} (e : Same H H') : Tk K H H' := fun _ _ h => seqT e h

mutual
/-- data without a list or a dict -/
def noLst : PyData → Bool
  | .none => true
  | .bool _ => true
  | .int _ => true
  | .str _ => true
  | .list _ => false
  | .tuple ds => noLstAll ds
  | .dict _ => false
def noLstAll : List PyData → Bool
  | [] => true
  | d :: ds => noLst d && noLstAll ds
end
section
variable {K : PySem.W.Frag} {H H' : Hp}
mutual
theorem dpSame (e : Same H H') : ∀ (d : PyData) (v : V), Dp K H v d → Dp K H' v d
  | .none, _, h => by cases h; exact .non
  | .bool b, _, h => by cases h; exact .bl b
  | .int i, _, h => by cases h; exact .int i
  | .str x, _, h => by cases h; exact .str x
  | .list ds, _, h => by
    cases h with
    | lst hs ha => exact .lst (Same.seq e hs) (dpAllSame e ds _ ha)
  | .tuple ds, _, h => by
    cases h with
    | tup hs ha => exact .tup (seqT e hs) (dpAllSame e ds _ ha)
  | .dict _, _, h => by cases h
theorem dpAllSame (e : Same H H') : ∀ (ds : List PyData) (vs : List V), DpAll K H vs ds → DpAll K H' vs ds
  | [], _, h => by cases h; exact .nil
  | d :: ds, _, h => by
    cases h with
    | cons h1 h2 => exact .cons (dpSame e d _ h1) (dpAllSame e ds _ h2)
end
mutual
theorem dpTk (e : Tk K H H') : ∀ (d : PyData) (v : V), noLst d = true → Dp K H v d → Dp K H' v d
  | .none, _, _, h => by cases h; exact .non
  | .bool b, _, _, h => by cases h; exact .bl b
  | .int i, _, _, h => by cases h; exact .int i
  | .str x, _, _, h => by cases h; exact .str x
  | .list ds, _, n, _ => absurd n (by simp [noLst])
  | .tuple ds, _, n, h => by
    cases h with
    | tup hs ha => exact .tup (e _ _ hs) (dpAllTk e ds _ (by simpa [noLst] using n) ha)
  | .dict _, _, _, h => by cases h
theorem dpAllTk (e : Tk K H H') : ∀ (ds : List PyData) (vs : List V), noLstAll ds = true → DpAll K H vs ds → DpAll K H' vs ds
  | [], _, _, h => by cases h; exact .nil
  | d :: ds, _, n, h => by
    have n' : noLst d = true ∧ noLstAll ds = true := by simpa [noLstAll] using n
    cases h with
    | cons h1 h2 => exact .cons (dpTk e d _ n'.1 h1) (dpAllTk e ds _ n'.2 h2)
end
theorem dpLen : ∀ {vs : List V} {ds : List PyData}, DpAll K H vs ds → vs.length = ds.length
  | _, [], h => by cases h; rfl
  | _, d :: ds, h => by
    cases h with
    | cons h1 h2 => rw [List.length_cons, List.length_cons, dpLen h2]
theorem dpAt : ∀ {vs : List V} {ds : List PyData} {i : Nat} {v : V}, DpAll K H vs ds → vs[i]? = some v → ∃ d, ds[i]? = some d ∧ Dp K H v d
  | _, [], _, _, h, e => by cases h; simp at e
  | _, d :: ds, 0, v, h, e => by
    cases h with
    | cons h1 h2 =>
      simp at e
      subst e
      exact ⟨d, rfl, h1⟩
  | _, d :: ds, i + 1, v, h, e => by
    cases h with
    | cons h1 h2 =>
      obtain ⟨d', q1, q2⟩ := dpAt (i := i) h2 (by simpa using e)
      exact ⟨d', by simpa using q1, q2⟩
theorem dpAtD : ∀ {vs : List V} {ds : List PyData} {i : Nat} {d : PyData}, DpAll K H vs ds → ds[i]? = some d → ∃ v, vs[i]? = some v ∧ Dp K H v d := fun {vs ds i d} h e => by
  have hl := (dpLen h)
  have hi : i < ds.length := (List.getElem?_eq_some_iff.mp e).1
  have hv : vs[i]? = some (vs[i]'(by omega)) := List.getElem?_eq_getElem (by omega)
  obtain ⟨d', q1, q2⟩ := dpAt h hv
  rw [e] at q1
  cases q1
  exact ⟨_, hv, q2⟩
theorem dpApp : ∀ {vs ws : List V} {ds es : List PyData}, DpAll K H vs ds → DpAll K H ws es → DpAll K H (vs ++ ws) (ds ++ es)
  | _, _, [], _, h, h' => by cases h; exact h'
  | _, _, d :: ds, _, h, h' => by
    cases h with
    | cons h1 h2 => exact .cons h1 (dpApp h2 h')
theorem dpSnoc {vs : List V} {ds : List PyData} {v : V} {d : PyData} (h : DpAll K H vs ds) (h1 : Dp K H v d) : DpAll K H (vs ++ [v]) (ds ++ [d]) := dpApp h (.cons h1 .nil)
theorem dpTake : ∀ {vs : List V} {ds : List PyData} (n : Nat), DpAll K H vs ds → DpAll K H (vs.take n) (ds.take n)
  | _, _, 0, _ => .nil
  | _, [], n + 1, h => by cases h; exact .nil
  | _, d :: ds, n + 1, h => by
    cases h with
    | cons h1 h2 => exact .cons h1 (dpTake n h2)
theorem dpDrop : ∀ {vs : List V} {ds : List PyData} (n : Nat), DpAll K H vs ds → DpAll K H (vs.drop n) (ds.drop n)
  | _, _, 0, h => h
  | _, [], n + 1, h => by cases h; exact .nil
  | _, d :: ds, n + 1, h => by
    cases h with
    | cons h1 h2 => exact dpDrop n h2
theorem dp_non {v : V} (h : Dp K H v .none) : v = .non := by cases h; rfl
theorem dp_bl {v : V} {b : Bool} (h : Dp K H v (.bool b)) : v = .bl b := by cases h; rfl
theorem dp_int {v : V} {i : Int} (h : Dp K H v (.int i)) : v = .int i := by cases h; rfl
theorem dp_str {v : V} {x : Str} (h : Dp K H v (.str x)) : v = .str x := by cases h; rfl
theorem dp_tup {v : V} {ds : List PyData} (h : Dp K H v (.tuple ds)) : ∃ a vs, v = .ref a ∧ SqT K H a vs ∧ DpAll K H vs ds := by
  cases h with
  | tup h1 h2 => exact ⟨_, _, rfl, h1, h2⟩
theorem dp_lst {v : V} {ds : List PyData} (h : Dp K H v (.list ds)) : ∃ a vs, v = .ref a ∧ SqL K H a vs ∧ DpAll K H vs ds := by
  cases h with
  | lst h1 h2 => exact ⟨_, _, rfl, h1, h2⟩
/-- items that are known by what they read as -/
theorem dpAll_map {α : Type} (f : α → V) (g : α → PyData) : ∀ (l : List α), (∀ x ∈ l, Dp K H (f x) (g x)) → DpAll K H (l.map f) (l.map g)
  | [], _ => .nil
  | x :: l, h => .cons (h x List.mem_cons_self) (dpAll_map f g l fun y hy => h y (List.mem_cons_of_mem _ hy))
theorem dpAll_zip : ∀ {vs : List V} {ds : List PyData}, DpAll K H vs ds → ∀ p ∈ vs.zip ds, Dp K H p.1 p.2
  | _, [], h, p, hp => by cases h; simp at hp
  | _, d :: ds, h, p, hp => by
    cases h with
    | cons h1 h2 =>
      rcases List.mem_cons.mp (by simpa using hp) with e | e
      · subst e; exact h1
      · exact dpAll_zip h2 p e
end

/-! ### comparisons -/
section
variable {X : Cx}
def rLtD (K : PySem.W.Frag) : R2 := fun x y H Q => ∃ d e, Dp K H x d ∧ Dp K H y e ∧ PySem.W.alike d e = true ∧ d ≠ .none ∧ d.depth ≤ 64 ∧ Q (.bl (PySem.W.dataLt d e)) H
theorem op_ltD (hu : X.A.units + 64 < cLine) : OpR X (compareOp .Lt) (rLtD X.K) := by
  intro pins s σ H x y v u Q I rx ry h
  obtain ⟨d, e, hd, he, al, hn, dep, q⟩ := h
  obtain ⟨as, r1⟩ := Dp.reads I d x v hd rx
  obtain ⟨bs, r2⟩ := Dp.reads I e y u he ry
  refine PySem.W.rcLt_alike d e X.A s v u as bs r1 r2 al hn ?_ X.prog X.w X.xe _ ⟨.bl _, H, I, rfl, q⟩
  have := Nat.min_le_left d.depth e.depth
  omega
def rInT (K : PySem.W.Frag) (neg : Bool) : R2 := fun x y H Q => ∃ d ds, Dp K H x d ∧ Dp K H y (.tuple ds) ∧ SeqAt.shaped d = true ∧ SeqAt.shaped (.tuple ds) = true ∧ Q (.bl (xor neg (ds.any fun z => PyData.eqv z d))) H
theorem op_inT (hu : X.A.units + 65 < cLine) : OpR X (compareOp .In) (rInT X.K false) := by
  intro pins s σ H x y v u Q I rx ry h
  obtain ⟨d, ds, hd, he, sd, se, q⟩ := h
  obtain ⟨as, r1⟩ := Dp.reads I d x v hd rx
  obtain ⟨bs, r2⟩ := Dp.reads I (.tuple ds) y u he ry
  refine SeqAt.in_tuple_reads r2 r1 (SeqAt.canLay_of_shaped se) (SeqAt.canLay_of_shaped sd) (room_in_shaped sd hu) ⟨.bl _, H, I, rfl, ?_⟩
  simpa using q
theorem op_notInT (hu : X.A.units + 65 < cLine) : OpR X (compareOp .NotIn) (rInT X.K true) := by
  intro pins s σ H x y v u Q I rx ry h
  obtain ⟨d, ds, hd, he, sd, se, q⟩ := h
  obtain ⟨as, r1⟩ := Dp.reads I d x v hd rx
  obtain ⟨bs, r2⟩ := Dp.reads I (.tuple ds) y u he ry
  refine SeqAt.notIn_tuple_reads r2 r1 (SeqAt.canLay_of_shaped se) (SeqAt.canLay_of_shaped sd) (room_in_shaped sd hu) ⟨.bl _, H, I, rfl, ?_⟩
  simpa using q
end
end Wc
set_option maxRecDepth 100000
/-! W2: sorted of data (tuples may be empty), whatever is sorted: a list, a set's values, a dict's keys. -/
namespace Wc
open PySem PySem.Spec PySem.SeqAt PySem.Calls PyProof.Rows L2
open PySem.W (SortsAt dataKind dataKind_inv dataKind_some AllAlike Sortable EachIs dataLt alike sortVals dataLe)

section
variable {prog : Program} {w : World} {A : Around} {E : Value → Shared → Prop} {s : Shared}

/-- tuple's own __lt__, as sorting calls it -/
theorem tupLt_call {l b : Addr} {items items2 : Array Value} {e r : Nat → Bool} {Q : Value → Shared → Prop} (hl : s.heap.IsTuple l items) (hb : s.heap.IsTuple b items2)
    (he : ∀ j (h1 : j < items.size) (h2 : j < items2.size), EqAt A.in1 s items[j] items2[j] (e j)) (hr : ∀ j (h1 : j < items.size) (h2 : j < items2.size), e j = false → RcLt A.in1 s items[j] items2[j] (r j))
    (h : Q (.bool (firstLt e r (decide (items.size < items2.size)) (List.range (min items.size items2.size)))) s) : wpAny (model prog w) A (call (.builtin "tuple.__lt__") [.ref l, .ref b]) Q E s := by
  obtain ⟨⟨cls, dd, data, sl⟩, ho, hc, n, hd⟩ := id hl
  obtain ⟨⟨cls2, dd2, data2, sl2⟩, ho2, hc2, n2, hd2⟩ := id hb
  simp only at hc hd hc2 hd2
  subst hc hd hc2 hd2
  exact call_meets F.slot_tuple_lt ⟨_, ho, rfl⟩ F.entry_tuple_lt (F.args_tuple_lt_2 _ _) (PySem.SeqAt.tuple_ltAt l b items items2 n n2 dd dd2 sl sl2 e r) ⟨ho, ho2, he, hr, h⟩

/-- one tuple against another, all of one type -/
theorem oneLt_tup {xs ys : List PyData} {a b : Value} {as bs : List Addr} {Q : Bool → Shared → Prop} (ra : Reads s.heap a (.tuple xs) as) (rb : Reads s.heap b (.tuple ys) bs) (h : alike (.tuple xs) (.tuple ys) = true)
    (hu : A.units + min (PyData.tuple xs).depth (PyData.tuple ys).depth < cLine) (hq : Q (dataLt (.tuple xs) (.tuple ys)) s) : wpAny (model prog w) A (oneLt' true a b) Q E s := by
  have hal : PySem.W.alikeAll xs ys = true := by simpa [alike] using h
  cases ra with
  | @tuple l o vs n _ as₁ h1 h2 h3 h4 =>
    cases rb with
    | @tuple l' o' vs' n' _ bs₁ k1 k2 k3 k4 =>
      have n1 : vs.size = xs.length := by simpa using ReadsAll.length _ _ _ h4
      have n2 : vs'.size = ys.length := by simpa using ReadsAll.length _ _ _ k4
      rw [PySem.W.dataLt_tuple, ← PySem.W.firstLt_toks xs ys hal, ← n1, ← n2] at hq
      rw [oneLt'_eq]
      simp only [if_true]
      refine wpAny_bind (wpAny_cRoomFor (room_here hu) ?_)
      refine wpAny_bind (wpAny_callSpecialIfBound?_slot (T := "tuple") ⟨_, h1, h2⟩ F.slot_tuple_lt (tupLt_call (e := pairEq xs ys) (r := fun j => dataLt (xs.getD j .none) (ys.getD j .none)) ⟨_, h1, h2, _, h3⟩ ⟨_, k1, k2, _, k3⟩ (fun j j1 j2 => ?_) (fun j j1 j2 hj => ?_) ?_))
      · have := PySem.W.eqAt_alikeAll xs ys A.in1 s vs.toList vs'.toList _ _ h4 k4 hal (room_in hu) j (by simpa using j1) (by simpa using j2)
        simpa using this
      · have := PySem.W.rcLt_alikeAll xs ys A.in1 s vs.toList vs'.toList _ _ h4 k4 hal (room_in hu) j (by simpa using j1) (by simpa using j2) hj
        simpa using this
      · exact wpAny_truthy_bool hq

/-- the first items that tuples have, or none -/
def headOf : PyData → Bool
  | .tuple (_ :: _) => true
  | _ => false
theorem firsts_of : ∀ (vs : List Value) (ds : List PyData) {Q : List (Option Value) → Shared → Prop}, EachIs (fun v d => ∃ as, Reads s.heap v d as) vs ds → (∀ d ∈ ds, ∃ r, d = .tuple r) →
    (∀ fs : List (Option Value), fs.map (·.isSome) = ds.map headOf → Q fs s) → wpAny (model prog w) A (vs.mapM firstOfTuple') Q E s
  | [], _, _, e, _, h => by
    cases e
    rw [List.mapM_nil]
    exact wpAny_pure (h [] rfl)
  | v :: vs, _, Q, e, ht, h => by
    cases e with
    | @cons _ d _ ds he et =>
      obtain ⟨as, r⟩ := he
      obtain ⟨xs, rfl⟩ := ht d List.mem_cons_self
      cases r with
      | @tuple a o items n _ _ ho hc hd hr =>
        rw [List.mapM_cons]
        refine wpAny_bind ?_
        rw [PySem.W.kas_first_eq]
        refine wpAny_bind (PySem.W.Looks.here (show PySem.W.Looks _ s.heap (typeOf (.ref a)) o.cls from (PySem.W.Looks.ld ho).andThen .now) ?_)
        rw [hc, if_neg (by first | decide | simp)]
        refine wpAny_bind (listItems_at ho hd (wpAny_pure ?_))
        refine wpAny_bind (firsts_of vs ds et (fun d hd => ht d (List.mem_cons_of_mem _ hd)) fun fs hfs => wpAny_pure (h _ ?_))
        rw [List.map_cons, List.map_cons, hfs]
        have e1 : items[0]?.isSome = headOf (.tuple xs) := by
          have hl : items.size = xs.length := by simpa using ReadsAll.length _ _ _ hr
          cases xs with
          | nil =>
            have : items.size = 0 := hl
            simp [headOf, this]
          | cons x xs =>
            have : 0 < items.size := by rw [hl]; exact Nat.succ_pos _
            simp [headOf, this]
        rw [e1]

/-- tuples of alike data, empty ones among them, can be sorted -/
theorem sortsAt_tups {vs : List Value} {ds : List PyData} (e : EachIs (fun v d => ∃ as, Reads s.heap v d as) vs ds) (hal : AllAlike ds) (ht : ∀ d ∈ ds, ∃ r, d = PyData.tuple r) (hu : ∀ d, d ∈ ds → A.units + d.depth < cLine) : SortsAt prog w A s (dataKind s.heap ds) vs := by
  by_cases hne : ∀ d ∈ ds, headOf d = true
  · refine SortsAt.data e hal (.inl fun d hd => ?_) hu
    obtain ⟨r, rfl⟩ := ht d hd
    have := hne _ hd
    cases r with
    | nil => simp [headOf] at this
    | cons x r => exact ⟨x, r, rfl⟩
  have room : ∀ {d d' : PyData}, d ∈ ds → A.units + min d.depth d'.depth < cLine := fun {d d'} hd => Nat.lt_of_le_of_lt (Nat.add_le_add_left (Nat.min_le_left _ _) _) (hu d hd)
  have keys : ∀ v, v ∈ vs → ∃ a, (dataKind s.heap ds).keyOf v = some a := fun v hv => by
    obtain ⟨d, hd, as, r⟩ := e.left v hv
    exact ⟨_, dataKind_some hal hd r⟩
  have notall : (ds.map headOf).all id = false := by
    rw [← Bool.not_eq_true]
    intro q
    refine hne fun d hd => ?_
    exact List.all_eq_true.mp q _ (List.mem_map.mpr ⟨d, hd, rfl⟩)
  -- whether the first one has an item
  cases hf : (ds.map headOf)[0]?.getD false with
  | true =>
    refine ⟨keys, general', fun E x y a b Q ha hb hq => ?_, fun h2 E Q hq => ?_⟩
    · obtain ⟨d, as, hd, ra, rfl⟩ := dataKind_inv ha
      obtain ⟨d', as', hd', rb, rfl⟩ := dataKind_inv hb
      obtain ⟨r, rfl⟩ := ht d hd
      show wpAny _ _ (oneLt' false x y) _ _ _
      exact PySem.W.oneLt_alike (f := false) (fun z => absurd z Bool.false_ne_true) ra rb (hal _ hd _ hd') (by simp) (room hd) hq
    · rw [keyKind'_eq, List.mapM_toArray, map_eq_pure_bind]
      refine wpAny_bind (wpAny_bind (firsts_of vs ds e ht fun fs hfs => wpAny_pure ?_))
      have e1 : (fs.toArray.all fun x => x.isSome) = false := by
        rw [List.all_toArray, ← notall, ← hfs, List.all_map]
        first | rfl | simp [Function.comp_def]
      rw [if_neg (by rw [e1]; decide)]
      have e2 : ((fs.toArray)[0]?.bind id).isSome = true := by
        rw [← hf, ← hfs]
        cases fs with
        | nil => rw [← hfs] at hf; simp at hf
        | cons f fs => simp
      rw [if_pos e2]
      exact wpAny_pure hq
  | false =>
    refine ⟨keys, oneType', fun E x y a b Q ha hb hq => ?_, fun h2 E Q hq => ?_⟩
    · obtain ⟨d, as, hd, ra, rfl⟩ := dataKind_inv ha
      obtain ⟨d', as', hd', rb, rfl⟩ := dataKind_inv hb
      obtain ⟨r, rfl⟩ := ht d hd
      obtain ⟨r', rfl⟩ := ht d' hd'
      rw [keyLt'_oneType]
      exact oneLt_tup ra rb (hal _ hd _ hd') (room hd) hq
    · rw [keyKind'_eq, List.mapM_toArray, map_eq_pure_bind]
      refine wpAny_bind (wpAny_bind (firsts_of vs ds e ht fun fs hfs => wpAny_pure ?_))
      have e1 : (fs.toArray.all fun x => x.isSome) = false := by
        rw [List.all_toArray, ← notall, ← hfs, List.all_map]
        first | rfl | simp [Function.comp_def]
      rw [if_neg (by rw [e1]; decide)]
      have e2 : ¬ ((fs.toArray)[0]?.bind id).isSome = true := by
        rw [Bool.not_eq_true, ← hf, ← hfs]
        cases fs with
        | nil => simp
        | cons f fs => simp
      rw [if_neg e2, oneTypeOnly'_eq, List.mapM_toArray, map_eq_pure_bind]
      have hT : ∀ v ∈ vs, PySem.W.Looks (model prog w) s.heap (typeOf v) (.type "tuple") := fun v hv => by
        obtain ⟨d, hd, as, r⟩ := e.left v hv
        obtain ⟨xs, rfl⟩ := ht d hd
        exact PySem.W.looks_reads r
      refine wpAny_bind (wpAny_bind (wpAny_bind (PySem.W.kas_mapM (r := Value.type "tuple") _ (fun v hv Q' hq' => (hT v hv).here hq') (wpAny_pure ?_))))
      have h0 : (List.map (fun _ => Value.type "tuple") vs).toArray[0]? = some (Value.type "tuple") := by
        cases vs with
        | nil => simp at h2
        | cons v vs => simp
      have hall : ((List.map (fun _ => Value.type "tuple") vs).toArray.all fun x => x == Value.type "tuple") = true := by
        simp only [List.all_toArray, List.all_map, List.all_eq_true]
        intro _ _
        exact beq_self_eq_true _
      rw [h0]
      simp only [hall, if_true]
      exact wpAny_pure (wpAny_pure hq)
end

/-! ### what can be sorted -/
structure SortOk (ds : List PyData) : Prop where
  al : AllAlike ds
  kd : (∀ d ∈ ds, ∃ r, d = PyData.tuple r) ∨ ∀ d ∈ ds, d ≠ .none ∧ ∀ xs, d ≠ .tuple xs
  dp : ∀ d ∈ ds, d.depth ≤ 64
/-- what is sorted: values and what they read as, as Python sorts -/
def srt (ps : List (V × PyData)) : List (V × PyData) := ps.mergeSort fun p q => !dataLt q.2 p.2
/-- the data alone -/
def srtD (ds : List PyData) : List PyData := ds.mergeSort fun a b => !dataLt b a
theorem srt_perm (ps : List (V × PyData)) : (srt ps).Perm ps := List.mergeSort_perm _ _
theorem srt_snd (ps : List (V × PyData)) : (srt ps).map (·.2) = srtD (ps.map (·.2)) := PySem.W.sort_maps _ fun _ _ _ _ => rfl
section
variable {prog : Program} {w : World} {A : Around} {E : Value → Shared → Prop} {s : Shared}
theorem sortsAt_ok {vs : List Value} {ds : List PyData} (e : EachIs (fun v d => ∃ as, Reads s.heap v d as) vs ds) (ok : SortOk ds) (hu : A.units + 64 < cLine) : SortsAt prog w A s (dataKind s.heap ds) vs := by
  have hb : ∀ d, d ∈ ds → A.units + d.depth < cLine := fun d hd => by have := ok.dp d hd; omega
  rcases ok.kd with h | h
  · exact sortsAt_tups e ok.al h hb
  · exact SortsAt.data e ok.al (.inr h) hb
end
section
variable {K : PySem.W.Frag} {H : Hp} {h h' : Heap}
theorem eachIs_get {α β : Type} {R : α → β → Prop} : ∀ {as : List α} {bs : List β}, EachIs R as bs → ∀ {i : Nat} {a : α}, as[i]? = some a → ∃ b, bs[i]? = some b ∧ R a b
  | _, _, .nil, i, a, e => by simp at e
  | _, _, .cons h t, 0, a, e => by simp at e; subst e; exact ⟨_, rfl, h⟩
  | _, _, .cons h t, i + 1, a, e => by
    obtain ⟨b, q1, q2⟩ := eachIs_get t (i := i) (by simpa using e)
    exact ⟨b, by simpa using q1, q2⟩
end
section
variable {X : Cx} {pins : List (Addr × Obj)} {σ : L2.St} {H : Hp} {s : Shared}
/-- values of V that read as data, on the heap -/
theorem each_reads (I : Inv X pins σ H s) : ∀ {ps : List (V × PyData)} {us : List Value}, (∀ p ∈ ps, Dp X.K H p.1 p.2) → Vals (ps.map (·.1)) us → EachIs (fun u (p : V × PyData) => RelV p.1 u ∧ ∃ as, Reads s.heap u p.2 as) us ps
  | [], _, _, r => by cases r; exact .nil
  | p :: ps, _, h, r => by
    cases r with
    | cons r1 r2 =>
      obtain ⟨as, q⟩ := Dp.reads I p.2 p.1 _ (h p List.mem_cons_self) r1
      exact .cons ⟨r1, as, q⟩ (each_reads I (fun q hq => h q (List.mem_cons_of_mem _ hq)) r2)
theorem vals_each : ∀ {ps : List (V × PyData)} {us : List Value}, EachIs (fun u (p : V × PyData) => RelV p.1 u) us ps → Vals (ps.map (·.1)) us
  | _, _, .nil => .nil
  | _, _, .cons h t => .cons h (vals_each t)

/-- list.sort() of a list just made, whose items read as data -/
theorem sort_new {A : Around} {E : Value → Shared → Prop} {us : List Value} {ps : List (V × PyData)} {Q : Value → Shared → Prop} (hu : A.units + 66 < cLine)
    (e : EachIs (fun u (p : V × PyData) => RelV p.1 u ∧ ∃ as, Reads s.heap u p.2 as) us ps) (ok : SortOk (ps.map (·.2))) (hL : us.length ≤ sizeLine)
    (h : ∀ h' out c, Vals ((srt ps).map (·.1)) out → h'.get? s.heap.objs.size = some (seqObj "list" out.toArray c) → (∀ b o, s.heap.get? b = some o → h'.get? b = some o) → Q .none { s with heap := h' }) :
    wpAny (model X.prog X.w) A (call (.builtin "list.sort") [.ref s.heap.objs.size]) Q E { s with heap := s.heap.push (seqObj "list" us.toArray 0) } := by
  have hoL : (s.heap.push (seqObj "list" us.toArray 0)).get? s.heap.objs.size = some (seqObj "list" us.toArray 0) := Heap.get?_push_size _ rfl
  have kk : ∀ b o, s.heap.get? b = some o → (PySem.W.sortingHeap (s.heap.push (seqObj "list" us.toArray 0)) s.heap.objs.size us).get? b = some o := fun b o q =>
    PySem.W.sortingHeap_old (Nat.ne_of_lt (Heap.lt_size q)) (Heap.get?_push_of_some _ q)
  refine wpAny_call_entry slot_list_sort ⟨_, hoL, rfl⟩ entry_list_sort ?_ (args_list_sort _)
  have er : EachIs (fun u (p : V × PyData) => RelV p.1 u ∧ ∃ as, Reads (PySem.W.sortingHeap (s.heap.push (seqObj "list" us.toArray 0)) s.heap.objs.size us) u p.2 as) us ps :=
    e.mono fun u p ⟨r, as, q⟩ => ⟨r, as, PyProof.Rows.Reads.keeps kk q⟩
  have er' : EachIs (fun u (p : V × PyData) => ∃ as, Reads (PySem.W.sortingHeap (s.heap.push (seqObj "list" us.toArray 0)) s.heap.objs.size us) u p.2 as) us ps := er.mono fun _ _ q => q.2
  have S := sortsAt_ok (prog := X.prog) (w := X.w) (A := A.in1) (s := { s with heap := PySem.W.sortingHeap (s.heap.push (seqObj "list" us.toArray 0)) s.heap.objs.size us })
    (PySem.W.each_map (R := fun u d => ∃ as, Reads (PySem.W.sortingHeap (s.heap.push (seqObj "list" us.toArray 0)) s.heap.objs.size us) u d as) (fun p : V × PyData => p.2) er') ok (by show A.units + 1 + 64 < cLine; omega)
  refine PySem.W.list_sort_vals (s := { s with heap := s.heap.push (seqObj "list" us.toArray 0) }) hoL S hL ?_
  have out := PySem.W.sortVals_data (h' := PySem.W.sortingHeap (s.heap.push (seqObj "list" us.toArray 0)) s.heap.objs.size us) (enc := fun p : V × PyData => p.2) (R := fun u (p : V × PyData) => RelV p.1 u) false (er.mono fun _ _ q => q.1) er' ok.al
  generalize sortVals _ false us us = o at out ⊢
  obtain ⟨c, hc⟩ := sortedHeap_at (out := o.toArray) hoL
  refine ⟨_, rfl, h _ o c (vals_each out) hc fun b x q => ?_⟩
  have hlt := Heap.lt_size q
  rw [sortedHeap_old (Nat.ne_of_lt hlt) (by rw [size_push']; exact Nat.lt_succ_of_lt hlt)]
  exact Heap.get?_push_of_some _ q
end
end Wc
set_option maxRecDepth 100000
set_option maxHeartbeats 2000000
/-! W3: sets of nested tuples (of texts, truths): add, over the model's table. -/
namespace Wc
open PySem PySem.Spec PyProof.Rows L2

/-- the value at a is the key k -/
abbrev Nk (h : Heap) (k : NestedKey) (a : Addr) : Prop := NestedIs h k (.ref a) ∧ k.depth ≤ 8
section
variable {P : Program} {w : World} {A : Around} {E : Value → Shared → Prop} {s : Shared}

/-! ### questions that a set asks of its members -/
mutual
theorem ofAClass_key : ∀ (k : NestedKey) (v : Value) (n : Nat) (Q : Bool → Shared → Prop), NestedIs s.heap k v → k.depth ≤ n → Q false s → wpAny (model P w) A (ofAClassStatement n v) Q E s
  | .none, _, n, Q, x, _, h => by cases x; cases n <;> exact wpAny_pure h
  | .num i, _, n, Q, x, _, h => by cases x <;> (cases n <;> exact wpAny_pure h)
  | .text y, _, n, Q, x, _, h => by cases x; cases n <;> exact wpAny_pure h
  | .tup ks, _, n, Q, x, hn, h => by
    cases x with
    | @tup a o vs m _ hg hc hd hk =>
      simp only [NestedKey.depth] at hn
      cases n with
      | zero => omega
      | succ n =>
        unfold ofAClassStatement
        refine wpAny_bind (wpAny_typeOf (T := "tuple") ⟨o, hg, hc⟩ ?_)
        have e : (("tuple" : String) == "tuple") = true := by decide
        simp only [e, if_true, Bool.not_true, Bool.false_eq_true, if_false]
        try refine wpAny_bind (wpAny_pure ?_)
        try simp only [Bool.not_true, Bool.false_eq_true, if_false]
        show wpAny _ _ (seqItems? (.ref a) >>= _) _ _ s
        refine wpAny_bind (wpAny_seqItems hg hd ?_)
        dsimp only
        refine wpAny_bind ?_
        show wpAny _ _ (forIn vs _ _) _ _ s
        rw [← Array.forIn_toList]
        refine wpAny_forIn_list _ (fun rest r s' => r.1 = none ∧ s' = s ∧ ∀ v ∈ rest, ∀ Q' : Bool → Shared → Prop, Q' false s → wpAny (model P w) A (ofAClassStatement n v) Q' E s) _ ?_ ?_ _ _
          ⟨rfl, rfl, fun v hv Q' hq => ofAClass_keys ks vs.toList n Q' hk (by omega) hq v hv⟩
        · rintro v rest r s' ⟨hr, rfl, hall⟩
          refine wpAny_bind (hall v List.mem_cons_self _ ?_)
          simp only [Bool.false_eq_true, if_false]
          exact wpAny_pure ⟨rfl, rfl, fun u hu' => hall u (List.mem_cons_of_mem _ hu')⟩
        · rintro ⟨r1, r2⟩ s' ⟨hr, rfl, _⟩
          simp only at hr
          subst hr
          exact wpAny_pure h
theorem ofAClass_keys : ∀ (ks : List NestedKey) (vs : List Value) (n : Nat) (Q : Bool → Shared → Prop), NestedAll s.heap ks vs → NestedKey.depthAll ks ≤ n → Q false s → ∀ v ∈ vs, wpAny (model P w) A (ofAClassStatement n v) Q E s
  | [], _, n, Q, x, _, _, v, hv => by cases x; cases hv
  | k :: ks, _, n, Q, x, hn, h, v, hv => by
    cases x with
    | cons x1 x2 =>
      simp only [NestedKey.depthAll] at hn
      rcases List.mem_cons.mp hv with e | hv
      · rw [e]; exact ofAClass_key k _ n Q x1 (by omega) h
      · exact ofAClass_keys ks _ n Q x2 (by omega) h v hv
end
/-- whether all that its hash hangs on goes by value: some answer, and nothing changes -/
theorem hashBy_key : ∀ (n : Nat) (k : NestedKey) (v : Value) (Q : Bool → Shared → Prop), NestedIs s.heap k v → (∀ b, Q b s) → wpAny (model P w) A (hashByValue n v) Q E s
  | n, .none, _, Q, x, h => by cases x; cases n <;> exact wpAny_pure (h _)
  | n, .num i, _, Q, x, h => by cases x <;> (cases n <;> exact wpAny_pure (h _))
  | n, .text y, _, Q, x, h => by cases x; cases n <;> exact wpAny_pure (h _)
  | 0, .tup ks, _, Q, x, h => by cases x; exact wpAny_pure (h _)
  | n + 1, .tup ks, _, Q, x, h => by
    cases x with
    | @tup a o vs m _ hg hc hd hk =>
      unfold hashByValue
      refine wpAny_bind (wpAny_specialOf (T := "tuple") ⟨o, hg, hc⟩ F.slot_tuple_hash.lookup ?_)
      show wpAny _ _ (seqItems? (.ref a) >>= _) _ _ s
      refine wpAny_bind (wpAny_seqItems hg hd ?_)
      refine wpAny_bind ?_
      show wpAny _ _ (forIn vs _ _) _ _ s
      rw [← Array.forIn_toList]
      have hall : ∀ v ∈ vs.toList, ∃ k, NestedIs s.heap k v := by
        have key : ∀ (ks : List NestedKey) (vs : List Value), NestedAll s.heap ks vs → ∀ v ∈ vs, ∃ k, NestedIs s.heap k v := by
          intro ks
          induction ks with
          | nil => intro vs x v hv; cases x; cases hv
          | cons k ks ih =>
            intro vs x v hv
            cases x with
            | cons x1 x2 =>
              rcases List.mem_cons.mp hv with e | hv
              · exact ⟨k, e ▸ x1⟩
              · exact ih _ x2 v hv
        exact key ks _ hk
      have ask : ∀ v ∈ vs.toList, ∀ Q' : Bool → Shared → Prop, (∀ b, Q' b s) → wpAny (model P w) A (hashByValue n v) Q' E s := fun v hv Q' hq => by
        obtain ⟨k', hk'⟩ := hall v hv
        exact hashBy_key n k' v Q' hk' hq
      refine wpAny_forIn_list _ (fun rest r s' => r.1 = none ∧ s' = s ∧ ∀ v ∈ rest, ∀ Q' : Bool → Shared → Prop, (∀ b, Q' b s) → wpAny (model P w) A (hashByValue n v) Q' E s) _ ?_ ?_ _ _ ⟨rfl, rfl, ask⟩
      · rintro v rest r s' ⟨hr, rfl, hall'⟩
        refine wpAny_bind (hall' v List.mem_cons_self _ fun b => ?_)
        cases b with
        | true =>
          simp only [Bool.not_true, Bool.false_eq_true, if_false]
          exact wpAny_pure ⟨rfl, rfl, fun u hu' => hall' u (List.mem_cons_of_mem _ hu')⟩
        | false =>
          simp only [Bool.not_false, if_true]
          exact wpAny_pure (wpAny_pure (h false))
      · rintro ⟨r1, r2⟩ s' ⟨hr, rfl, _⟩
        simp only at hr
        subst hr
        exact wpAny_pure (h true)
/-- a search among keys shows nothing -/
theorem seen_key {k : NestedKey} {b : Addr} {Q : Bool → Shared → Prop} (hk : Nk s.heap k b) {ys : List Value} (hy : ∀ y ∈ ys, ∃ k' c, y = Value.ref c ∧ Nk s.heap k' c) (h : Q false s) :
    wpAny (model P w) A (searchCouldBeSeen (.ref b) ys) Q E s := by
  unfold searchCouldBeSeen
  refine wpAny_bind ?_
  refine wpAny_forIn_list _ (fun rest r s' => r.1 = none ∧ s' = s ∧ ∀ y ∈ rest, ∃ k' c, y = Value.ref c ∧ Nk s.heap k' c) _ ?_ ?_ _ _ ⟨rfl, rfl, hy⟩
  · rintro v rest r s' ⟨hr, rfl, hall⟩
    obtain ⟨k', c, rfl, hc⟩ := hall v List.mem_cons_self
    have more : ∀ y ∈ rest, ∃ k' c, y = Value.ref c ∧ Nk s'.heap k' c := fun u hu' => hall u (List.mem_cons_of_mem _ hu')
    dsimp only
    by_cases hv : (b == c || (carriedByValue (.ref b) && carriedByValue (.ref c))) = true
    · refine wp_if_pos hv ?_
      exact wpAny_pure ⟨rfl, rfl, more⟩
    · refine wp_if_neg hv ?_
      refine wpAny_bind (quiet_key k _ 8 s' hk.1 hk.2 _ _ _ ?_)
      simp only [Bool.not_true, Bool.false_eq_true, if_false]
      refine wpAny_bind (quiet_key k' _ 8 s' hc.1 hc.2 _ _ _ ?_)
      simp only [Bool.not_true, Bool.false_eq_true, if_false]
      refine wpAny_bind (ofAClass_key k _ 8 _ hk.1 hk.2 ?_)
      simp only [Bool.false_eq_true, if_false]
      refine wpAny_bind (ofAClass_key k' _ 8 _ hc.1 hc.2 ?_)
      simp only [Bool.false_eq_true, if_false]
      exact wpAny_pure ⟨rfl, rfl, more⟩
  · rintro ⟨r1, r2⟩ s' ⟨hr, rfl, _⟩
    simp only at hr
    subst hr
    exact wpAny_pure h
end
end Wc
set_option maxRecDepth 100000
set_option maxHeartbeats 4000000
/-! W4: a set of nested tuples in the model's table: searched, grown. -/
namespace Wc
open PySem PySem.Spec PyProof.Rows L2

/-- the table's rows: the hash of each key, where its tuple stands -/
def nrows (w : World) (L : List (Addr × NestedKey)) : List (Int × Value) := L.map fun p => (p.2.hash w, Value.ref p.1)
/-- the keys' hashes -/
abbrev nhs (w : World) (L : List (Addr × NestedKey)) : List Int := L.map fun p => p.2.hash w
structure NTab (w : World) (h : Heap) (a : Addr) (L : List (Addr × NestedKey)) (es : Array (Int × Value)) (ep : Nat) (t : SetTable) : Prop where
  ob : ∃ o, h.get? a = some o ∧ o.ExactSet ∧ o.data = .set es ep t
  rows : es.toList = nrows w L
  tab : TabOk t (nhs w L)
  nd : (L.map (·.2)).Nodup
  led : w.params.followText "set-order" = true ∨ t.led = true
  room : L.length * 5 < t.mask * 3
  few : L.length < 64
theorem nrows_get (w : World) (L : List (Addr × NestedKey)) (i : Nat) : (nrows w L)[i]? = L[i]?.map fun p => (p.2.hash w, Value.ref p.1) := by
  unfold nrows
  rw [List.getElem?_map]
section
variable {P : Program} {w : World} {A : Around} {E : Value → Shared → Prop} {s : Shared} {h : Heap} {a : Addr} {L : List (Addr × NestedKey)} {es : Array (Int × Value)} {ep : Nat} {t : SetTable}
theorem NTab.size (R : NTab w h a L es ep t) : es.size = L.length := by
  rw [← Array.length_toList, R.rows]
  unfold nrows
  rw [List.length_map]
theorem NTab.place (R : NTab w h a L es ep t) : t.place.toList.length = L.length := by
  have q := R.tab.sz
  unfold nhs at q
  rw [List.length_map] at q
  rw [Array.length_toList, q]
theorem fits_of {t : SetTable} {n : Nat} (h1 : t.place.size = n) (h2 : t.dummies = #[]) (h3 : n ≤ t.mask) : t.fits n = true := by
  unfold SetTable.fits SetTable.fill
  rw [h2, h1, Bool.and_eq_true, beq_iff_eq, decide_eq_true_eq]
  exact ⟨rfl, h3⟩
theorem NTab.fits (R : NTab w h a L es ep t) : t.fits es.size = true := by
  have q := R.place
  have r := R.room
  rw [Array.length_toList] at q
  refine fits_of ?_ R.tab.dm ?_ <;> rw [R.size]
  · exact q
  · omega
theorem NTab.entry (R : NTab w h a L es ep t) {i : Nat} {p : Addr × NestedKey} (e : L[i]? = some p) : es[i]? = some (p.2.hash w, Value.ref p.1) := by
  rw [← Array.getElem?_toList, R.rows, nrows_get, e]
  rfl
theorem NTab.gw (R : NTab w h a L es ep t) : ¬ t.gaveWay = true := by
  unfold SetTable.gaveWay
  rw [mask_odd R.tab.mok]
  decide
theorem nth_plain (m : Nat) : ∀ (n : Nat) (p : SetTable.Probe), p.dummy = none → (nth m p n).dummy = none
  | 0, _, h => h
  | n + 1, p, h => nth_plain m n (adv m p) (by unfold adv; split <;> exact h)

/-- the probe's c-th state on the way of the hash hk -/
abbrev wayP (t : SetTable) (hk : Int) (c : Nat) : SetTable.Probe := nth t.mask (runAt t.mask (SetTable.bits hk % (t.mask + 1)) (SetTable.bits hk)) c

/-- the search among keys, from the way's c-th place on; K: its first empty place -/
theorem seek_from (R : NTab w s.heap a L es ep t) (hL : ∀ p ∈ L, Nk s.heap p.2 p.1) {x : Addr} {k : NestedKey} (hx : Nk s.heap k x) (hu : A.units + 8 < cLine) {K : Nat} (hKf : K < 10 * SetTable.turns t.mask)
    (hK : way t.mask (k.hash w) K ∉ t.place.toList) (hKb : ∀ c, c < K → way t.mask (k.hash w) c ∈ t.place.toList) {Q : SetFound → Shared → Prop}
    (hin : k ∈ L.map (·.2) → Q (.there none) s) (hout : k ∉ L.map (·.2) → Q (.free (way t.mask (k.hash w) K) false) s) :
    ∀ (f c : Nat) (stand : Option SetTable.Probe), stand.getD (t.probeStart (k.hash w)) = wayP t (k.hash w) c → c ≤ K → K - c < f →
      (∀ (i : Nat) p, L[i]? = some p → p.2 = k → ∃ c', c ≤ c' ∧ c' < K ∧ t.place.toList[i]? = some (way t.mask (k.hash w) c')) →
      wpAny (model P w) A (setSearchFrom a (.ref x) (k.hash w) true f stand) Q E s := by
  intro f
  induction f with
  | zero => intro c stand _ _ hf _; exact absurd hf (Nat.not_lt_zero _)
  | succ f ih =>
    intro c stand hst hc hf hre
    obtain ⟨o, ho, hex, hd⟩ := R.ob
    rw [setSearchFrom_succ]
    refine wpAny_bind (wpAny_setState_of ho hd R.fits ?_)
    dsimp only
    refine wp_if_neg R.gw ?_
    try refine wpAny_bind (wpAny_pure ?_)
    have sh : ∀ q, nth t.mask (wayP t (k.hash w) c) q = wayP t (k.hash w) (c + q) := fun q => (nth_add t.mask c _ q).symm
    have shj : ∀ q, (nth t.mask (wayP t (k.hash w) c) q).j = way t.mask (k.hash w) (c + q) := fun q => congrArg SetTable.Probe.j (sh q)
    have ecK : c + (K - c) = K := by omega
    have hashAt : ∀ (i : Nat) p, L[i]? = some p → (fun i => (es[i]?.map (·.1)).getD 0) i = p.2.hash w := fun i p hp => by
      show (es[i]?.map (·.1)).getD 0 = _
      rw [R.entry hp]
      rfl
    -- where the key stands, it is met from here on
    have unmet : ∀ n, (∀ k' i', k' < n → t.place.toList[i']? = some (nth t.mask (wayP t (k.hash w) c) k').j → (fun i : Nat => (es[i]?.map fun e : Int × Value => e.1).getD 0) i' ≠ k.hash w) →
        ∀ (i : Nat) p, L[i]? = some p → p.2 = k → ∀ c', c ≤ c' → t.place.toList[i]? = some (way t.mask (k.hash w) c') → c + n ≤ c' := fun n hno i p hp hk c' h1 h2 => by
      rcases Nat.lt_or_ge c' (c + n) with z | z
      · exfalso
        refine hno (c' - c) i (by omega) ?_ ((hashAt i p hp).trans (by rw [hk]))
        rw [shj, show c + (c' - c) = c' by omega]
        exact h2
      · exact z
    have spec := go_spec t R.tab.ris R.tab.dm (fun i => (es[i]?.map (·.1)).getD 0) (k.hash w) (10 * SetTable.turns t.mask) (K - c) (wayP t (k.hash w) c) (nth_plain _ _ _ rfl) (by omega)
      (fun q hq => by rw [shj]; exact hKb (c + q) (by omega)) (by rw [shj, ecK]; exact hK)
    rcases spec with ⟨q, i, hq, hi, hh, hno, hpr⟩ | ⟨hno, hpr⟩
    · rw [shj] at hi
      have hpr' : t.probe (fun i => (es[i]?.map (·.1)).getD 0) (k.hash w) (stand.getD (t.probeStart (k.hash w))) = some (.candidate (way t.mask (k.hash w) (c + q)) i (wayP t (k.hash w) (c + (q + 1)))) := by
        rw [hst, ← shj, ← sh]
        exact hpr
      rw [hpr']
      dsimp only
      have hil : i < L.length := by
        rw [← R.place]
        exact (List.getElem?_eq_some_iff.mp hi).1
      obtain ⟨p, hp⟩ : ∃ p, L[i]? = some p := ⟨_, List.getElem?_eq_getElem hil⟩
      have hmem : p ∈ L := List.mem_of_getElem? hp
      have hpt := hL p hmem
      have rest : wpAny (model P w) A (searchRest a (.ref x) (k.hash w) true f es t (way t.mask (k.hash w) (c + q)) i (wayP t (k.hash w) (c + (q + 1)))) Q E s := by
        unfold searchRest
        rw [R.entry hp]
        dsimp only
        have room : A.units + min p.2.depth k.depth < cLine := by
          have := Nat.min_le_right p.2.depth k.depth
          have := hx.2
          omega
        refine wpAny_bind (wpAny_holding (eqAt_key p.2 k A s _ _ hpt.1 hx.1 room _ _ _ _ ?_))
        refine wpAny_bind (wpAny_setState_of ho hd R.fits ?_)
        dsimp only
        by_cases hkk : p.2 = k
        · refine wp_if_pos (by rw [hkk, NestedKey.beq_self]; rfl) ?_
          exact wpAny_pure (hin (List.mem_map.mpr ⟨p, hmem, hkk⟩))
        · have hbe : NestedKey.beq p.2 k = false := by
            rw [← NestedKey.decide_eq]
            exact decide_eq_false hkk
          refine wp_if_neg (by rw [hbe]; decide) ?_
          try refine wpAny_bind (wpAny_pure ?_)
          rw [sameMem]
          dsimp only
          have hsl : t.slot (way t.mask (k.hash w) (c + q)) = .live i := slot_live R.tab.ris hi
          simp only [if_true, hsl, R.entry hp]
          refine wpAny_bind (wpAny_isSame_ref_self (wpAny_bind (wpAny_pure ?_)))
          simp only [if_true]
          refine wp_if_neg (by rw [hbe]; decide) ?_
          refine ih (c + (q + 1)) _ rfl (by omega) (by omega) fun i0 p0 h0 hk0 => ?_
          obtain ⟨c', a1, a2, a3⟩ := hre i0 p0 h0 hk0
          have z := unmet q hno i0 p0 h0 hk0 c' a1 a3
          refine ⟨c', ?_, a2, a3⟩
          rcases Nat.lt_or_ge (c + q) c' with y | y
          · omega
          · exfalso
            have ec : c' = c + q := by omega
            rw [ec] at a3
            have s0 := slot_live R.tab.ris a3
            rw [hsl] at s0
            injection s0 with s0
            rw [← s0, hp] at h0
            exact hkk ((congrArg Prod.snd (Option.some.inj h0)).trans hk0)
      by_cases hl : t.led = true
      · refine wp_if_neg (by simp [hl]) ?_
        try refine wpAny_bind (wpAny_pure ?_)
        exact rest
      · refine wp_if_pos (by simp [hl]) ?_
        refine wpAny_bind (seen_key hx (fun y hy => ?_) ?_)
        · obtain ⟨e, he, ee⟩ := List.mem_map.mp hy
          have he1 : e ∈ es ∧ e.1 = k.hash w := by simpa using he
          have he2 : e ∈ es.toList := by simpa using he1.1
          rw [R.rows] at he2
          obtain ⟨p2, hp2, e2⟩ := List.mem_map.mp he2
          exact ⟨p2.2, p2.1, by rw [← ee, ← e2], hL p2 hp2⟩
        · refine wp_if_neg (by decide) ?_
          try refine wpAny_bind (wpAny_pure ?_)
          exact rest
    · have hpr' : t.probe (fun i => (es[i]?.map (·.1)).getD 0) (k.hash w) (stand.getD (t.probeStart (k.hash w))) = some (.empty (way t.mask (k.hash w) K) none) := by
        have e2 : way t.mask (k.hash w) K = (nth t.mask (wayP t (k.hash w) c) (K - c)).j := by rw [shj, ecK]
        rw [hst, e2]
        exact hpr
      rw [hpr']
      dsimp only
      refine wpAny_pure (hout fun hm => ?_)
      obtain ⟨p0, h0, hk0⟩ := List.mem_map.mp hm
      obtain ⟨i0, hi0⟩ := List.mem_iff_getElem?.mp h0
      obtain ⟨c', a1, a2, a3⟩ := hre i0 p0 hi0 hk0
      have z := unmet (K - c) hno i0 p0 hi0 hk0 c' a1 a3
      omega
/-- the search that adding makes -/
theorem seek (R : NTab w s.heap a L es ep t) (hL : ∀ p ∈ L, Nk s.heap p.2 p.1) {x : Addr} {k : NestedKey} (hx : Nk s.heap k x) (hu : A.units + 8 < cLine) {Q : SetFound → Shared → Prop}
    (hin : k ∈ L.map (·.2) → Q (.there none) s)
    (hout : ∀ K, k ∉ L.map (·.2) → way t.mask (k.hash w) K ∉ t.place.toList → (∀ c, c < K → way t.mask (k.hash w) c ∈ t.place.toList) → Q (.free (way t.mask (k.hash w) K) false) s) :
    wpAny (model P w) A (setSearch a (.ref x) (k.hash w) true) Q E s := by
  have hroom := R.room
  obtain ⟨K, hKf, hK, hKb⟩ := R.tab.first (by unfold nhs; rw [List.length_map]; omega) (k.hash w)
  have hbig : K < 100000 := by
    have : 10 * SetTable.turns t.mask ≤ 1420 := by
      unfold SetTable.turns
      rcases R.tab.mok with e | e | e <;> omega
    omega
  unfold setSearch
  refine seek_from R hL hx hu hKf hK hKb hin (fun hn => hout K hn hK hKb) 100000 0 none rfl (Nat.zero_le _) (by omega) fun i p hp hk => ?_
  have hi : (nhs w L)[i]? = some (k.hash w) := by
    unfold nhs
    rw [List.getElem?_map, hp, ← hk]
    rfl
  have hil : i < t.place.toList.length := by
    rw [R.place]
    exact (List.getElem?_eq_some_iff.mp hp).1
  have hj := List.getElem?_eq_getElem hil
  obtain ⟨c, hc, e⟩ := R.tab.before hK hi hj
  exact ⟨c, Nat.zero_le _, hc, by rw [hj, e]⟩
end
end Wc
set_option maxRecDepth 100000
set_option maxHeartbeats 4000000
/-! W5: a member laid into a set of nested tuples; the set on the abstract heap. -/
namespace Wc
open PySem PySem.Spec PyProof.Rows L2

theorem nk_keeps {h h' : Heap} {k : NestedKey} {b : Addr} (x : Nk h k b) (hk : ∀ c o, h.get? c = some o → h'.get? c = some o) : Nk h' k b :=
  ⟨NestedIs.at (fun c o _ _ e _ => hk c o e) k _ x.1, x.2⟩
theorem nk_but {h h' : Heap} {k : NestedKey} {a b : Addr} {o : Obj} {es : Array (Int × Value)} {ep : Nat} {t : SetTable} (x : Nk h k b) (ho : h.get? a = some o) (hd : o.data = .set es ep t) (hs : Heap.SameBut a h h') : Nk h' k b :=
  ⟨NestedIs.at (fun c u vs n e d => by
    refine (hs.2 c fun z => ?_).trans e
    subst z
    rw [ho] at e
    cases e
    rw [hd] at d
    cases d) k _ x.1, x.2⟩
theorem ins_nrows (w : World) (L : List (Addr × NestedKey)) (p : Nat) (x : Addr) (k : NestedKey) : nrows w (L.take p ++ (x, k) :: L.drop p) = (nrows w L).take p ++ (k.hash w, Value.ref x) :: (nrows w L).drop p := by
  unfold nrows
  rw [List.map_append, List.map_cons, List.map_take, List.map_drop]
/-- rows picked out in some order are the rows of the keys picked out so -/
theorem picked (w : World) (L : List (Addr × NestedKey)) (es : Array (Int × Value)) (hr : es.toList = nrows w L) : ∀ l : List Nat, (∀ i ∈ l, i < L.length) →
    l.filterMap (fun i => es[i]?) = nrows w (l.filterMap fun i => L[i]?) ∧ nhs w (l.filterMap fun i => L[i]?) = l.map fun i => (es.map (·.1)).getD i 0
  | [], _ => ⟨rfl, rfl⟩
  | i :: l, hl => by
    have hi := hl i List.mem_cons_self
    obtain ⟨e1, e2⟩ := picked w L es hr l fun j hj => hl j (List.mem_cons_of_mem _ hj)
    have eL : L[i]? = some L[i] := List.getElem?_eq_getElem hi
    have eE : es[i]? = some ((L[i]).2.hash w, Value.ref (L[i]).1) := by
      rw [← Array.getElem?_toList, hr, nrows_get, eL]
      rfl
    have e4 : (es.map (·.1)).getD i 0 = (L[i]).2.hash w := by
      have e5 : (es.map (·.1))[i]? = some ((L[i]).2.hash w) := by
        rw [Array.getElem?_map, eE]
        rfl
      simp [Array.getD_eq_getD_getElem?, e5]
    refine ⟨?_, ?_⟩
    · rw [List.filterMap_cons_some (f := fun i => es[i]?) eE, List.filterMap_cons_some (f := fun i => L[i]?) eL, e1]
      rfl
    · rw [List.filterMap_cons_some (f := fun i => L[i]?) eL, List.map_cons, e4, ← e2]
      rfl
theorem all_picked {α : Type} (L : List α) : (List.range L.length).filterMap (fun i => L[i]?) = L := by
  have key : ∀ n, n ≤ L.length → (List.range n).filterMap (fun i => L[i]?) = L.take n := by
    intro n
    induction n with
    | zero => intro _; rfl
    | succ n ih =>
      intro hn
      rw [List.range_succ, List.filterMap_append, ih (Nat.le_of_lt hn), List.take_succ, List.getElem?_eq_getElem hn, List.filterMap_cons_some (List.getElem?_eq_getElem hn)]
      rfl
  rw [key L.length (Nat.le_refl _), List.take_length]

section
variable {P : Program} {w : World} {A : Around} {E : Value → Shared → Prop} {s : Shared} {a : Addr} {L : List (Addr × NestedKey)} {es : Array (Int × Value)} {ep : Nat} {t : SetTable}
/-- the table laid anew, larger -/
theorem relay_n {o : Obj} (ho : s.heap.get? a = some o) (hex : o.ExactSet) (hd : o.data = .set es ep t) (hrows : es.toList = nrows w L) (hpl : t.place.size = L.length) (hdm : t.dummies = #[]) (hfl : L.length ≤ t.mask)
    (nd : (L.map (·.2)).Nodup) (ld : w.params.followText "set-order" = true ∨ t.led = true) (few : L.length < 64) {wanted M : Nat}
    (hw : SetTable.sizeAbove wanted - 1 = M) (hM : MaskOk M) (hw2 : SetTable.sizeAbove wanted ≤ 128) (hn : L.length * 5 < M * 3) {Q : Unit → Shared → Prop}
    (hQ : ∀ h' L' es' ep' t', Heap.SameBut a s.heap h' → NTab w h' a L' es' ep' t' → L'.Perm L → Q () { s with heap := h' }) : wpAny (model P w) A (setRelay a wanted) Q E s := by
  have hsl : es.size = L.length := by
    rw [← Array.length_toList, hrows]
    unfold nrows
    rw [List.length_map]
  obtain ⟨t', order, e, hp, T, em, el, _, ed⟩ := relaid_ok t (hs := es.map (·.1)) (wanted := wanted) hw hM (by rw [Array.size_map, hsl]; omega)
  rw [Array.size_map, hsl] at hp
  obtain ⟨r1, r3⟩ := picked w L es hrows order.toList fun i hi => List.mem_range.mp (hp.mem_iff.mp hi)
  have r2 : (order.toList.filterMap fun i => L[i]?).Perm L := by
    have q := hp.filterMap fun i => L[i]?
    rw [all_picked] at q
    exact q
  generalize (order.toList.filterMap fun i => L[i]?) = L2 at r1 r2 r3
  rw [← r3] at T
  have r1' : (order.filterMap (es[·]?)).toList = nrows w L2 := by
    first | (rw [Array.toList_filterMap]; exact r1) | simpa using r1
  have hs2 : (order.filterMap (es[·]?)).size = es.size := by
    rw [← Array.length_toList, r1', hsl, ← r2.length_eq]
    unfold nrows
    rw [List.length_map]
  rw [setRelay_eq]
  refine wpAny_bind (wpAny_setState_of ho hd (fits_of (by rw [hsl]; exact hpl) hdm (by rw [hsl]; exact hfl)) ?_)
  dsimp only
  refine wp_if_neg (by rw [sizeLine_eq]; omega) ?_
  try refine wpAny_bind (wpAny_pure ?_)
  rw [e]
  dsimp only
  refine wpAny_bind ?_
  refine wp_if_neg (by rw [hs2]; simp) ?_
  try refine wpAny_bind (wpAny_pure ?_)
  refine wpAny_pure ?_
  dsimp only
  refine wpAny_storeSet_of ho hd ?_ (by rw [hs2, hsl, sizeLine_eq]; omega)
  refine hQ _ L2 (order.filterMap (es[·]?)) (ep + 1) t' (Heap.SameBut.update ..) ?_ r2
  refine ⟨⟨_, _root_.L2.store_at ho hd, ⟨hex.1, hex.2.1, hex.2.2⟩, rfl⟩, r1', T, (r2.map (·.2)).nodup_iff.mpr nd, by rw [el]; exact ld, ?_, by rw [r2.length_eq]; exact few⟩
  rw [r2.length_eq, em]
  exact hn

/-- a key added -/
theorem add_n (R : NTab w s.heap a L es ep t) (hL : ∀ p ∈ L, Nk s.heap p.2 p.1) {x : Addr} {k : NestedKey} (hx : Nk s.heap k x) (hu : A.units + 8 < cLine) (hfew : L.length + 1 < 64) {Q : Bool → Shared → Prop}
    (hQ : ∀ b h' L' es' ep' t', Heap.SameBut a s.heap h' → NTab w h' a L' es' ep' t' → (k ∈ L.map (·.2) → L' = L) → (k ∉ L.map (·.2) → L'.Perm ((x, k) :: L)) → Q b { s with heap := h' }) :
    wpAny (model P w) A (setAddHashed a (.ref x) (k.hash w)) Q E s := by
  obtain ⟨o, ho, hex, hd⟩ := R.ob
  have hsl := R.size
  have hroom := R.room
  unfold setAddHashed
  refine wpAny_holding ?_
  rw [show (100000 : Nat) = 99999 + 1 from rfl, setAddHashedIn_succ]
  refine wpAny_bind (wpAny_setState_of ho hd R.fits ?_)
  dsimp only
  refine wp_if_neg (by simp [byScan, Value.scannable]) ?_
  try refine wpAny_bind (wpAny_pure ?_)
  refine wpAny_bind (seek R hL hx hu (fun hm => ?_) fun K hm hK hb => ?_)
  · dsimp only
    exact wpAny_pure (hQ false s.heap L es ep t (Heap.SameBut.refl a s.heap) R (fun _ => rfl) fun z => absurd hm z)
  dsimp only
  refine wpAny_bind (wpAny_setState_of ho hd R.fits ?_)
  dsimp only
  obtain ⟨q1, q2, q3, q4, q5, _, q7, q8, q9⟩ := R.tab.put hK hb
  generalize hpt : t.put (way t.mask (k.hash w) K) = pt at q1 q3 q4 q5 q7 q8 q9 ⊢
  obtain ⟨t1, p⟩ := pt
  dsimp only at q1 q3 q4 q5 q7 q8 q9 ⊢
  subst q1
  have hin : (SetTable.insertAt es (SetTable.below t.place (way t.mask (k.hash w) K)) (k.hash w, Value.ref x)).toList = nrows w (L.take (SetTable.below t.place (way t.mask (k.hash w) K)) ++ (x, k) :: L.drop (SetTable.below t.place (way t.mask (k.hash w) K))) := by
    rw [SetTable.toList_insertAt, ins_nrows, R.rows]
  generalize SetTable.below t.place (way t.mask (k.hash w) K) = p at q2 q3 hin ⊢
  have pm := put_perm L p (x, k)
  have hhs : nhs w (L.take p ++ (x, k) :: L.drop p) = (nhs w L).take p ++ k.hash w :: (nhs w L).drop p := by
    unfold nhs
    rw [List.map_append, List.map_cons, List.map_take, List.map_drop]
  rw [← hhs] at q3
  generalize hes1 : SetTable.insertAt es p (k.hash w, Value.ref x) = es1 at hin ⊢
  generalize L.take p ++ (x, k) :: L.drop p = L1 at pm q3 hin
  have hlen : L1.length = L.length + 1 := pm.length_eq
  have nd1 : (L1.map (·.2)).Nodup := by
    refine (pm.map (·.2)).nodup_iff.mpr ?_
    rw [List.map_cons]
    exact List.nodup_cons.mpr ⟨hm, R.nd⟩
  have hes : es1.size = L.length + 1 := by
    rw [← Array.length_toList, hin, ← hlen]
    unfold nrows
    rw [List.length_map]
  have q9' : t1.fill = L.length + 1 := by
    rw [q9]
    unfold nhs
    rw [List.length_map]
  -- whatever the mark says, the table is the same
  have tail : ∀ t2 : SetTable, t2.place = t1.place → t2.dummies = t1.dummies → t2.mask = t1.mask → t2.led = t1.led → TabOk t2 (nhs w L1) →
      wpAny (model P w) A (do
        storeSet a es1 t2
        if (!false && t2.tooFull) = true then do setRelay a (SetTable.grown (es.size + 1)); pure true else pure true) Q E s := by
    intro t2 z1 z2 z3 z4 T2
    have hsz2 : t2.place.size = L1.length := by
      have q := T2.sz
      unfold nhs at q
      rw [List.length_map] at q
      exact q
    have fl2 : t2.fill = L.length + 1 := by
      unfold SetTable.fill at q9' ⊢
      rw [z1, z2]
      exact q9'
    refine wpAny_bind (wpAny_storeSet_of ho hd ?_ (by rw [hes, sizeLine_eq]; omega))
    have sb : Heap.SameBut a s.heap (s.heap.update a (Obj.putSet es1 t2)) := Heap.SameBut.update ..
    have ho1 := _root_.L2.store_at (es' := es1) (t' := t2) ho hd
    generalize s.heap.update a (Obj.putSet es1 t2) = h1 at sb ho1 ⊢
    have ld1 : w.params.followText "set-order" = true ∨ t2.led = true := by rw [z4, q5]; exact R.led
    by_cases hf : t2.tooFull = true
    · have hfull : (L.length + 1) * 5 ≥ t.mask * 3 := by
        have h := hf
        unfold SetTable.tooFull at h
        rw [decide_eq_true_eq, fl2, z3, q4] at h
        exact h
      refine wp_if_pos (by simp [hf]) ?_
      rw [hsl]
      have cases2 : (t.mask = 7 ∧ L.length = 4) ∨ (t.mask = 31 ∧ L.length = 18) := by
        rcases R.tab.mok with e | e | e
        · left; rw [e] at hfull hroom; exact ⟨e, by omega⟩
        · right; rw [e] at hfull hroom; exact ⟨e, by omega⟩
        · exfalso; rw [e] at hfull; omega
      have go : ∀ M, SetTable.sizeAbove (SetTable.grown (L.length + 1)) - 1 = M → MaskOk M → SetTable.sizeAbove (SetTable.grown (L.length + 1)) ≤ 128 → (L.length + 1) * 5 < M * 3 →
          wpAny (model P w) A (setRelay a (SetTable.grown (L.length + 1))) (fun _ s' => wpAny (model P w) A (pure true) Q E s') E { s with heap := h1 } := fun M g1 g2 g3 g4 => by
        refine relay_n (s := { s with heap := h1 }) ho1 ⟨hex.1, hex.2.1, hex.2.2⟩ rfl hin hsz2 (by rw [z2]; exact q3.dm) (by rw [hlen, z3, q4]; rcases cases2 with ⟨e, e2⟩ | ⟨e, e2⟩ <;> omega) nd1 ld1 (by rw [hlen]; exact hfew) g1 g2 g3 (by rw [hlen]; exact g4) ?_
        intro h2 L2 es2 ep2 t2 sb2 R2 pm2
        exact wpAny_pure (hQ true h2 L2 es2 ep2 t2 (sb.trans sb2) R2 (fun z => absurd z hm) fun _ => pm2.trans pm)
      refine wpAny_bind ?_
      rcases cases2 with ⟨_, e2⟩ | ⟨_, e2⟩
      · exact go 31 (by rw [e2, size_20]) (.inr (.inl rfl)) (by rw [e2, size_20]; decide) (by omega)
      · exact go 127 (by rw [e2, size_76]) (.inr (.inr rfl)) (by rw [e2, size_76]; decide) (by omega)
    · refine wp_if_neg (by simp [hf]) ?_
      refine wpAny_pure (hQ true h1 L1 es1 (ep + 1) t2 sb ⟨⟨_, ho1, ⟨hex.1, hex.2.1, hex.2.2⟩, rfl⟩, hin, T2, nd1, ld1, ?_, by rw [hlen]; exact hfew⟩ (fun z => absurd z hm) fun _ => pm)
      have h := hf
      unfold SetTable.tooFull at h
      rw [decide_eq_true_eq, fl2, z3] at h
      rw [hlen, z3]
      omega
  have fin : ∀ b : Bool, wpAny (model P w) A (do
        storeSet a es1 (if b = true then t1 else { t1 with plain := false })
        if (!false && (if b = true then t1 else { t1 with plain := false } : SetTable).tooFull) = true then do setRelay a (SetTable.grown (es.size + 1)); pure true else pure true) Q E s := by
    intro b
    cases b with
    | true => exact tail t1 rfl rfl rfl rfl q3
    | false => exact tail { t1 with plain := false } rfl rfl rfl rfl ⟨q3.ris, q3.dm, q3.sz, q3.mok, q3.bd, q3.reach⟩
  by_cases hp1 : t1.plain = true
  · refine wp_if_pos hp1 ?_
    exact wpAny_bind (hashBy_key 8 k _ _ hx.1 fin)
  · refine wp_if_neg hp1 ?_
    exact wpAny_bind (wpAny_pure (fin true))
end
end Wc
set_option maxRecDepth 100000
set_option maxHeartbeats 4000000
/-! W6: sets of texts; set.add of either kind; both on the abstract heap. -/
namespace Wc
open PySem PySem.Spec PyProof.Rows L2

/-! ### sets of texts -/
def txtOf (e : Int × Value) : Str := match e.2 with | .str x _ => x | _ => Str.empty
def GoodT (w : World) (e : Int × Value) : Prop := ∃ x tk, e.2 = Value.str x tk ∧ e.1 = hashStr w x
/-- a set of the texts xs, in the table's order -/
structure XTab (w : World) (h : Heap) (a : Addr) (xs : List Str) (es : Array (Int × Value)) (ep : Nat) (t : SetTable) : Prop where
  ob : ∃ o, h.get? a = some o ∧ o.ExactSet ∧ o.data = .set es ep t
  good : ∀ e ∈ es.toList, GoodT w e
  txts : es.toList.map txtOf = xs
  nd : xs.Nodup
  few : es.size < scanBound
  fits : t.fits es.size = true
  ris : Ris t.place.toList
  led : w.params.followText "set-order" = true ∨ t.led = true
section
variable {P : Program} {w : World} {A : Around} {E : Value → Shared → Prop} {s : Shared} {a : Addr} {xs : List Str} {es : Array (Int × Value)} {ep : Nat} {t : SetTable}
theorem goodT_is {e : Int × Value} (g : GoodT w e) (x : Str) : (mixKind P w).is (Sum.inr x) e.2 = true ↔ txtOf e = x := by
  obtain ⟨y, tk, h1, _⟩ := g
  unfold txtOf
  rw [h1]
  show Value.isStrOf x (.str y tk) = true ↔ y = x
  simp [Value.isStrOf]
theorem goodT_elems {l : List (Int × Value)} (g : ∀ e ∈ l, GoodT w e) : ElemsOf (mixKind P w) l := fun e he => by
  obtain ⟨x, tk, h1, h2⟩ := g e he
  exact ⟨⟨Sum.inr x, by rw [h1]; exact mixKind_str P w x tk, h2⟩, by rw [h1]; rfl⟩
/-- behind the new row's place -/
theorem addT_tail {g : Bool → Sem Unit} (hg : ∀ (b : Bool) (s₁ : Shared) (Q' : Unit → Shared → Prop), Q' () s₁ → wpAny (model P w) A (g b) Q' E s₁)
    {o : Obj} (ho : s.heap.get? a = some o) (hex : o.ExactSet) (hd : o.data = .set es ep t)
    {es1 : Array (Int × Value)} {t2 : SetTable} (g1 : ∀ e ∈ es1.toList, GoodT w e) (nd1 : (es1.toList.map txtOf).Nodup)
    (hb1 : es1.size < scanBound) (hf2 : t2.fits es1.size = true) (hr : Ris t2.place.toList) (hl : w.params.followText "set-order" = true ∨ t2.led = true) {wasDummy : Bool} {R : Option Bool → Shared → Prop}
    (hR : ∀ h' xs' es' ep' t', Heap.SameBut a s.heap h' → XTab w h' a xs' es' ep' t' → xs'.Perm (es1.toList.map txtOf) → R (some true) { s with heap := h' }) :
    wpAny (model P w) A (do
        storeSet a es1 t2
        if (!wasDummy && t2.tooFull) = true then do
            g (relayAll t2 es1 (SetTable.grown es1.size)).2.2
            storeSet a (relayAll t2 es1 (SetTable.grown es1.size)).1 (relayAll t2 es1 (SetTable.grown es1.size)).2.1
            pure (some true)
          else pure (some true)) R E s := by
  refine wpAny_bind (wpAny_storeSet_of ho hd ?_ (fits_of_scanBound hb1))
  have ho1 := _root_.L2.store_at (es' := es1) (t' := t2) ho hd
  have sb1 := Heap.SameBut.update s.heap a (Obj.putSet es1 t2)
  split
  · have pm := relayAll_perm t2 es1 (SetTable.grown es1.size)
    have hf3 := relayAll_fits t2 es1 (SetTable.grown es1.size)
    have hr3 := relayAll_ris t2 es1 (SetTable.grown es1.size)
    have hl3 := relayAll_led t2 es1 (SetTable.grown es1.size)
    generalize relayAll t2 es1 (SetTable.grown es1.size) = Z at pm hf3 hr3 hl3 ⊢
    obtain ⟨es2, t3, gave⟩ := Z
    dsimp only at pm hf3 hr3 hl3 ⊢
    have hsz : es2.size = es1.size := by rw [← Array.length_toList, pm.length_eq, Array.length_toList]
    have hb2 : es2.size < scanBound := by rw [hsz]; exact hb1
    refine wpAny_bind (hg _ _ _ ?_)
    refine wpAny_bind (wpAny_storeSet_of ho1 rfl ?_ (fits_of_scanBound hb2))
    have ho2 := _root_.L2.store_at (es' := es2) (t' := t3) ho1 rfl
    refine wpAny_pure (hR _ (es2.toList.map txtOf) es2 (ep + 1 + 1) t3 (sb1.trans (Heap.SameBut.update _ a _)) ?_ (pm.map txtOf))
    exact ⟨⟨_, ho2, hex, rfl⟩, fun e he => g1 e (pm.mem_iff.mp he), rfl, (pm.map txtOf).nodup_iff.mpr nd1, hb2, hf3, hr3, hl.imp id fun z => by rw [hl3]; exact z⟩
  · exact wpAny_pure (hR _ (es1.toList.map txtOf) es1 _ t2 sb1 ⟨⟨_, ho1, hex, rfl⟩, g1, rfl, nd1, hb1, hf2, hr, hl⟩ (List.Perm.refl _))
/-- a text added -/
theorem addT_hashed (R : XTab w s.heap a xs es ep t) {x : Str} {tk : Tok} {Q : Bool → Shared → Prop} (room : xs.length + 1 < scanBound)
    (hQ : ∀ b h' xs' es' ep' t', Heap.SameBut a s.heap h' → XTab w h' a xs' es' ep' t' → (x ∈ xs → xs' = xs) → (x ∉ xs → xs'.Perm (x :: xs)) → Q b { s with heap := h' }) :
    wpAny (model P w) A (setAddHashed a (.str x tk) ((mixKind P w).hash (Sum.inr x))) Q E s := by
  obtain ⟨o, ho, hex, hd⟩ := R.ob
  have hkey : (mixKind P w).is (Sum.inr x) (.str x tk) = true := mixKind_str P w x tk
  have hsc : (Value.str x tk).scannable = true := rfl
  have hel : ElemsOf (mixKind P w) es.toList := goodT_elems R.good
  have hlen : es.size = xs.length := by rw [← R.txts, List.length_map, Array.length_toList]
  unfold setAddHashed setAddHashedIn
  refine wpAny_holding (wpAny_bind (wpAny_setState_of ho hd R.fits ?_))
  dsimp only
  rw [byScan_of hsc R.few hel]
  simp only [↓reduceIte]
  unfold setAddByScan
  refine wpAny_bind ?_
  refine wpAny_bind (wpAny_rule ?_)
  refine wpAny_bind (wpAny_setScan_of hkey ho hd R.fits hel ?_)
  cases hfi : List.findIdx? (fun e => (mixKind P w).is (Sum.inr x) e.2) es.toList with
  | some j =>
    dsimp only
    obtain ⟨hj, pj, _⟩ := List.findIdx?_eq_some_iff_getElem.mp hfi
    have hin : x ∈ xs := by
      rw [← R.txts, ← (goodT_is (P := P) (R.good _ (List.getElem_mem hj)) x).1 pj]
      exact List.mem_map.mpr ⟨_, List.getElem_mem hj, rfl⟩
    exact wpAny_pure (wpAny_pure (hQ false s.heap xs es ep t (Heap.SameBut.refl a s.heap) R (fun _ => rfl) fun z => absurd hin z))
  | none =>
    dsimp only
    have hnk : x ∉ xs := fun z => by
      rw [← R.txts] at z
      obtain ⟨e, he, q⟩ := List.mem_map.mp z
      have c := List.findIdx?_eq_none_iff.mp hfi e he
      rw [(goodT_is (P := P) (R.good e he) x).2 q] at c
      cases c
    have hgw : ∀ (b : Bool) {s₁ : Shared} {Q' : Unit → Shared → Prop}, Q' () s₁ → wpAny (model P w) A (match b with | true => rule "set.scan.the-table-gave-way" | false => pure ()) Q' E s₁ :=
      fun b s₁ Q' q => by cases b <;> first | exact wpAny_pure q | exact wpAny_rule q
    have pm := layNew_perm t es ((mixKind P w).hash (Sum.inr x)) (.str x tk)
    have hf1 := layNew_fits t es ((mixKind P w).hash (Sum.inr x)) (.str x tk)
    have hr1 := layNew_ris t es ((mixKind P w).hash (Sum.inr x)) (.str x tk) R.ris
    have hl1 := layNew_led t es ((mixKind P w).hash (Sum.inr x)) (.str x tk)
    generalize layNew t es ((mixKind P w).hash (Sum.inr x)) (.str x tk) = Z at pm hf1 hr1 hl1 ⊢
    obtain ⟨es1, t1, wasDummy, gave⟩ := Z
    dsimp only at pm hf1 hr1 hl1 ⊢
    rw [Array.toList_push] at pm
    have pc : es1.toList.Perm (((mixKind P w).hash (Sum.inr x), Value.str x tk) :: es.toList) := pm.trans (List.perm_append_singleton _ _)
    have pk : (es1.toList.map txtOf).Perm (x :: xs) := by
      have q := pc.map txtOf
      rw [List.map_cons, R.txts] at q
      exact q
    have g1 : ∀ e ∈ es1.toList, GoodT w e := fun e he => by
      rcases List.mem_cons.mp (pc.mem_iff.mp he) with z | z
      · rw [z]; exact ⟨x, tk, rfl, rfl⟩
      · exact R.good e z
    have nd1 : (es1.toList.map txtOf).Nodup := pk.nodup_iff.mpr (List.nodup_cons.mpr ⟨hnk, R.nd⟩)
    have hsz : es1.size = xs.length + 1 := by rw [← Array.length_toList, pc.length_eq, List.length_cons, Array.length_toList, hlen]
    have hb1 : es1.size < scanBound := by rw [hsz]; exact room
    have hled : w.params.followText "set-order" = true ∨ t1.led = true := R.led.imp id fun z => by rw [hl1]; exact z
    have fin : ∀ h' xs' es' ep' t', Heap.SameBut a s.heap h' → XTab w h' a xs' es' ep' t' → xs'.Perm (es1.toList.map txtOf) → Q true { s with heap := h' } := fun h' xs' es' ep' t' sb r p =>
      hQ true h' xs' es' ep' t' sb r (fun z => absurd z hnk) fun _ => p.trans pk
    refine wpAny_bind (hgw _ ?_)
    split
    · refine wpAny_bind ?_
      rw [hashByValue_scannable 8 hsc]
      refine wpAny_pure ?_
      refine addT_tail ?_ ho hex hd g1 nd1 hb1 ?_ ?_ ?_ ?_
      · intro b s₁ Q' q; cases b <;> first | exact wpAny_pure q | exact wpAny_rule q
      · first | (split <;> first | exact hf1 | exact SetTable.fits_plain_off hf1) | exact hf1
      · first | (split <;> exact hr1) | exact hr1
      · first | (split <;> exact hled) | exact hled
      · intro h' xs' es' ep' t' sb r p; dsimp only; exact wpAny_pure (fin h' xs' es' ep' t' sb r p)
    · refine wpAny_bind (wpAny_pure ?_)
      simp only [↓reduceIte]
      refine addT_tail ?_ ho hex hd g1 nd1 hb1 hf1 hr1 hled ?_
      · intro b s₁ Q' q; cases b <;> first | exact wpAny_pure q | exact wpAny_rule q
      · intro h' xs' es' ep' t' sb r p; dsimp only; exact wpAny_pure (fin h' xs' es' ep' t' sb r p)
/-- set.add(x), x a text -/
theorem addT_call (R : XTab w s.heap a xs es ep t) {x : Str} {tk : Tok} {Q : Value → Shared → Prop} (room : xs.length + 1 < scanBound)
    (hQ : ∀ h' n xs' es' ep' t', Heap.SameBut a s.heap h' → XTab w h' a xs' es' ep' t' → (x ∈ xs → xs' = xs) → (x ∉ xs → xs'.Perm (x :: xs)) → Q .none { s with heap := h', toks := n }) :
    wpAny (model P w) A (call (.builtin "set.add") [.ref a, .str x tk]) Q E s := by
  obtain ⟨o, ho, hex, hd⟩ := R.ob
  refine wpAny_call_entry F.slot_set_add ⟨o, ho, hex.1⟩ F.entry_set_add ?_ (F.args_set_add_2 _ _)
  unfold Builtin.«set.add» Builtin.Frozenset.oneOther
  simp only [List.isEmpty_nil, bind_assoc]
  unfold Builtin.Frozenset.addrOf setAdd
  refine wpAny_bind (wpAny_pure ?_)
  try dsimp only
  refine wpAny_bind (wpAny_pure ?_)
  try dsimp only
  refine wpAny_bind ?_
  refine wpAny_holding ?_
  refine wpAny_bind ((mixKind P w).pyHash (mixKind_str P w x tk) ?_)
  refine addT_hashed (s := { s with toks := s.toks + 1 }) R room fun b h' xs' es' ep' t' sb r c1 c2 => ?_
  show wpAny _ _ (ret Value.none) _ _ _
  exact wpAny_pure ⟨_, rfl, hQ h' _ xs' es' ep' t' sb r c1 c2⟩
/-- set.add(x), x a nested tuple -/
theorem addN_call {L : List (Addr × NestedKey)} (R : NTab w s.heap a L es ep t) (hL : ∀ p ∈ L, Nk s.heap p.2 p.1) {x : Addr} {k : NestedKey} (hx : Nk s.heap k x) (hu : A.units + 16 < cLine) (hfew : L.length + 1 < 64) {Q : Value → Shared → Prop}
    (hQ : ∀ h' n L' es' ep' t', Heap.SameBut a s.heap h' → NTab w h' a L' es' ep' t' → (k ∈ L.map (·.2) → L' = L) → (k ∉ L.map (·.2) → L'.Perm ((x, k) :: L)) → Q .none { s with heap := h', toks := n }) :
    wpAny (model P w) A (call (.builtin "set.add") [.ref a, .ref x]) Q E s := by
  obtain ⟨o, ho, hex, hd⟩ := R.ob
  refine wpAny_call_entry F.slot_set_add ⟨o, ho, hex.1⟩ F.entry_set_add ?_ (F.args_set_add_2 _ _)
  unfold Builtin.«set.add» Builtin.Frozenset.oneOther
  simp only [List.isEmpty_nil, bind_assoc]
  unfold Builtin.Frozenset.addrOf setAdd
  refine wpAny_bind (wpAny_pure ?_)
  try dsimp only
  refine wpAny_bind (wpAny_pure ?_)
  try dsimp only
  refine wpAny_bind ?_
  refine wpAny_holding ?_
  refine wpAny_bind (pyHash_key k _ _ s _ hx.1 (by have := hx.2; show A.units + 1 + k.depth < cLine; omega) ?_)
  refine add_n (s := { s with toks := s.toks + k.draws }) R hL hx (by show A.units + 1 + 8 < cLine; omega) hfew fun b h' L' es' ep' t' sb r c1 c2 => ?_
  show wpAny _ _ (ret Value.none) _ _ _
  exact wpAny_pure ⟨_, rfl, hQ h' _ L' es' ep' t' sb r c1 c2⟩
end
end Wc
set_option maxRecDepth 100000
set_option maxHeartbeats 4000000
/-! W7: data as keys; sets as tracked things; sorted(set). -/
namespace Wc
open PySem PySem.Spec PyProof.Rows L2

mutual
/-- the key that a datum is -/
def nkey : PyData → NestedKey
  | .none => .none
  | .bool b => .num (if b = true then 1 else 0)
  | .int i => .num i
  | .str x => .text x
  | .tuple ds => .tup (nkeys ds)
  | .list _ => .none
  | .dict _ => .none
def nkeys : List PyData → List NestedKey
  | [] => []
  | d :: ds => nkey d :: nkeys ds
end
theorem nkeys_map : ∀ ds : List PyData, nkeys ds = ds.map nkey
  | [] => rfl
  | d :: ds => by rw [nkeys, nkeys_map ds, List.map_cons]
mutual
theorem nkey_depth : ∀ d : PyData, (nkey d).depth ≤ d.depth
  | .none => Nat.zero_le _
  | .bool _ => Nat.zero_le _
  | .int _ => Nat.zero_le _
  | .str _ => Nat.zero_le _
  | .list _ => Nat.zero_le _
  | .tuple ds => by
    have := nkeys_depth ds
    simp only [nkey, NestedKey.depth, PyData.depth]
    omega
  | .dict _ => Nat.zero_le _
theorem nkeys_depth : ∀ ds : List PyData, NestedKey.depthAll (nkeys ds) ≤ PyData.depthAll ds
  | [] => Nat.zero_le _
  | d :: ds => by
    have h1 := nkey_depth d
    have h2 := nkeys_depth ds
    simp only [nkeys, NestedKey.depthAll, PyData.depthAll]
    omega
end
mutual
theorem nkey_of {h : Heap} : ∀ (d : PyData) (v : Value) (as : List Addr), noLst d = true → Reads h v d as → NestedIs h (nkey d) v
  | .none, _, _, _, r => by cases r; exact .none
  | .bool _, _, _, _, r => by cases r; exact .bool rfl
  | .int _, _, _, _, r => by cases r; exact .int _ _
  | .str _, _, _, _, r => by cases r; exact .text _ _
  | .list _, _, _, n, _ => absurd n (by simp [noLst])
  | .tuple ds, _, _, n, r => by
    cases r with
    | tuple h1 h2 h3 h4 => exact .tup h1 h2 h3 (nkeys_of ds _ _ (by simpa [noLst] using n) h4)
  | .dict _, _, _, n, _ => absurd n (by simp [noLst])
theorem nkeys_of {h : Heap} : ∀ (ds : List PyData) (vs : List Value) (as : List Addr), noLstAll ds = true → ReadsAll h vs ds as → NestedAll h (nkeys ds) vs
  | [], _, _, _, r => by cases r; exact .nil
  | d :: ds, _, _, n, r => by
    have n' : noLst d = true ∧ noLstAll ds = true := by simpa [noLstAll] using n
    cases r with
    | cons r1 r2 => exact .cons (nkey_of d _ _ n'.1 r1) (nkeys_of ds _ _ n'.2 r2)
end

/-- a datum that may be a key -/
structure KeyD (d : PyData) : Prop where
  nl : noLst d = true
  dp : d.depth ≤ 8
/-! ### tracked sets -/
/-- a set of the texts xs, in the table's order -/
def TSetO (w : World) (a : Addr) (xs : List Str) : HO := .ext fun h => ∃ es ep t, XTab w h a xs es ep t
/-- a set of tuples: where each stands, what it reads as -/
def NSetO (w : World) (a : Addr) (L : List (Addr × PyData)) : HO := .ext fun h => ∃ es ep t, NTab w h a (L.map fun p => (p.1, nkey p.2)) es ep t
section
variable {P : Program} {w : World} {H : Hp} {h : Heap} {a : Addr}
theorem tsetO_ok {xs : List Str} {es : Array (Int × Value)} {ep : Nat} {t : SetTable} (R : XTab w h a xs es ep t) : ObjOk P w H h a (TSetO w a xs) := by
  obtain ⟨o, ho, _⟩ := R.ob
  refine ⟨⟨es, ep, t, R⟩, ⟨o, ho⟩, ?_⟩
  rintro h1 h2 ⟨es', ep', t', R'⟩ k
  obtain ⟨o', ho', r'⟩ := R'.ob
  exact ⟨es', ep', t', ⟨o', k _ ho', r'⟩, R'.good, R'.txts, R'.nd, R'.few, R'.fits, R'.ris, R'.led⟩
theorem nsetO_ok {L : List (Addr × PyData)} {es : Array (Int × Value)} {ep : Nat} {t : SetTable} (R : NTab w h a (L.map fun p => (p.1, nkey p.2)) es ep t) : ObjOk P w H h a (NSetO w a L) := by
  obtain ⟨o, ho, _⟩ := R.ob
  refine ⟨⟨es, ep, t, R⟩, ⟨o, ho⟩, ?_⟩
  rintro h1 h2 ⟨es', ep', t', R'⟩ k
  obtain ⟨o', ho', r'⟩ := R'.ob
  exact ⟨es', ep', t', ⟨o', k _ ho', r'⟩, R'.rows, R'.tab, R'.nd, R'.led, R'.room, R'.few⟩
/-- a new set's object -/
abbrev newSetObj (w : World) : Obj := { cls := .type "set", dict := none, data := .set #[] 0 (.fresh 0 0 (!w.params.followText "set-order")) }
theorem led_new (w : World) : w.params.followText "set-order" = true ∨ (SetTable.fresh 0 0 (!w.params.followText "set-order")).led = true := by
  show _ ∨ (!w.params.followText "set-order") = true
  cases w.params.followText "set-order"
  · exact .inr rfl
  · exact .inl rfl
theorem xtab_new (ho : h.get? a = some (newSetObj w)) : XTab w h a [] #[] 0 (.fresh 0 0 (!w.params.followText "set-order")) where
  ob := ⟨_, ho, ⟨rfl, rfl, rfl⟩, rfl⟩
  good := fun e he => by simp at he
  txts := rfl
  nd := List.nodup_nil
  few := by decide
  fits := rfl
  ris := List.Pairwise.nil
  led := led_new w
theorem ntab_new (ho : h.get? a = some (newSetObj w)) : NTab w h a [] #[] 0 (.fresh 0 0 (!w.params.followText "set-order")) where
  ob := ⟨_, ho, ⟨rfl, rfl, rfl⟩, rfl⟩
  rows := rfl
  tab := ⟨List.Pairwise.nil, rfl, rfl, .inl rfl, fun x hx => (by cases hx), fun i h j hi => (by simp [nhs] at hi)⟩
  nd := List.nodup_nil
  led := led_new w
  room := by show 0 * 5 < 7 * 3; decide
  few := by show 0 < 64; decide
end

/-- what adding asks of the set at D, the value, the heap, and what then may come -/
abbrev TAdd := Addr → V → Hp → (Hp → Prop) → Prop
/-- a kind of sets: its new one, its adding -/
structure SetKd (P : Program) (w : World) (K : PySem.W.Frag) (A : Around) (new : Addr → HO) (ad : TAdd) : Prop where
  fresh : ∀ (H : Hp) (h : Heap) (a : Addr), h.get? a = some (newSetObj w) → ObjOk P w H h a (new a)
  add : ∀ (X : Cx), X.prog = P → X.w = w → X.K = K → X.A = A → ∀ (pins : List (Addr × Obj)) (s : Shared) (σ : L2.St) (H : Hp) (D : Addr) (y : V) (v : Value) (R : Hp → Prop) (Q : Value → Shared → Prop) (E : Value → Shared → Prop),
    Inv X pins σ H s → RelV y v → ad D y H R → (∀ s' H', Inv X pins σ H' s' → R H' → Q .none s') → wpAny (model P w) A (call (.builtin "set.add") [.ref D, v]) Q E s
def addT (w : World) : TAdd := fun D y H R => ∃ (x : Str) (xs : List Str), y = .str x ∧ H D = some (TSetO w D xs) ∧ xs.length + 1 < 4096 ∧ ∀ xs' : List Str, (x ∈ xs → xs' = xs) → (x ∉ xs → xs'.Perm (x :: xs)) → R (upd H D (TSetO w D xs'))
def addN (K : PySem.W.Frag) (w : World) : TAdd := fun D y H R => ∃ (x : Addr) (d : PyData) (L : List (Addr × PyData)), y = .ref x ∧ Dp K H y d ∧ KeyD d ∧ H D = some (NSetO w D L) ∧ (∀ p ∈ L, Dp K H (.ref p.1) p.2 ∧ KeyD p.2) ∧ L.length + 1 < 64 ∧
  ∀ L' : List (Addr × PyData), ((∃ p ∈ L, nkey p.2 = nkey d) → L' = L) → (¬ (∃ p ∈ L, nkey p.2 = nkey d) → L'.Perm ((x, d) :: L)) → R (upd H D (NSetO w D L'))
theorem setKdT (P : Program) (w : World) (K : PySem.W.Frag) (A : Around) : SetKd P w K A (fun a => TSetO w a []) (addT w) where
  fresh := fun H h a ho => tsetO_ok (xtab_new ho)
  add := by
    intro X hP hw hK hA pins s σ H D y v R Q E I r had hQ
    subst hP hw hK hA
    obtain ⟨x, xs, rfl, hD, few, q⟩ := had
    obtain ⟨tk, rfl⟩ := r
    obtain ⟨⟨es, ep, t, R0⟩, _⟩ := I.hok D _ hD
    refine addT_call R0 (by show xs.length + 1 < 4096; exact few) fun h' n xs' es' ep' t' sb new c1 c2 => ?_
    obtain ⟨o, ho, _⟩ := new.ob
    exact hQ _ _ (I.write (e := D) (t' := n) (by rw [hD]; trivial) (.inl rfl) (fun b u hb hu => (sb.2 b hb).trans hu) ⟨o, ho⟩ (tsetO_ok new)) (q xs' c1 c2)
section
variable {X : Cx} {pins : List (Addr × Obj)} {σ : L2.St} {H : Hp} {s : Shared}
/-- a tracked tuple that may be a key is one on the heap -/
theorem inv_nk (I : Inv X pins σ H s) {x : Addr} {d : PyData} (hd : Dp X.K H (.ref x) d) (k : KeyD d) : Nk s.heap (nkey d) x := by
  obtain ⟨as, r⟩ := Dp.reads I d (.ref x) (.ref x) hd rfl
  exact ⟨nkey_of d _ as k.nl r, Nat.le_trans (nkey_depth d) k.dp⟩
end
theorem setKdN (P : Program) (w : World) (K : PySem.W.Frag) (A : Around) (hu : A.units + 16 < cLine) : SetKd P w K A (fun a => NSetO w a []) (addN K w) where
  fresh := fun H h a ho => nsetO_ok (L := []) (ntab_new ho)
  add := by
    intro X hP hw hK hA pins s σ H D y v R Q E I r had hQ
    subst hP hw hK hA
    obtain ⟨x, d, L, rfl, hd, kd, hD, hL, few, q⟩ := had
    cases r
    obtain ⟨⟨es, ep, t, R0⟩, _⟩ := I.hok D _ hD
    refine addN_call R0 (fun p hp => ?_) (inv_nk I hd kd) hu (by rw [List.length_map]; exact few) fun h' n L' es' ep' t' sb new c1 c2 => ?_
    · obtain ⟨p0, hp0, rfl⟩ := List.mem_map.mp hp
      exact inv_nk I (hL p0 hp0).1 (hL p0 hp0).2
    · obtain ⟨o, ho, _⟩ := new.ob
      -- which list of data
      obtain ⟨L2, e2, a1, a2⟩ : ∃ L2 : List (Addr × PyData), L2.map (fun p => (p.1, nkey p.2)) = L' ∧ ((∃ p ∈ L, nkey p.2 = nkey d) → L2 = L) ∧ (¬ (∃ p ∈ L, nkey p.2 = nkey d) → L2.Perm ((x, d) :: L)) := by
        have hm : (nkey d ∈ (L.map fun p => (p.1, nkey p.2)).map (·.2)) ↔ ∃ p ∈ L, nkey p.2 = nkey d := by
          rw [List.map_map, List.mem_map]
          rfl
        by_cases c : ∃ p ∈ L, nkey p.2 = nkey d
        · exact ⟨L, (c1 (hm.2 c)).symm, fun _ => rfl, fun z => absurd c z⟩
        · obtain ⟨L2, p2, e2⟩ := perm_lift (fun p : Addr × PyData => (p.1, nkey p.2)) (c2 fun z => c (hm.1 z)) ((x, d) :: L) rfl
          exact ⟨L2, e2, fun z => absurd z c, fun _ => p2⟩
      subst e2
      exact hQ _ _ (I.write (e := D) (t' := n) (by rw [hD]; trivial) (.inl rfl) (fun b u hb hu' => (sb.2 b hb).trans hu') ⟨o, ho⟩ (nsetO_ok new)) (q L2 a1 a2)

/-! ### sorted -/
section
variable {X : Cx} {pins : List (Addr × Obj)} {σ : L2.St} {H : Hp} {s : Shared}
/-- sorted(x), whatever its walk gathers -/
theorem sorted_run {a : Addr} {Q : VK} (hu : X.A.units + 70 < cLine)
    (hcol : ∀ Q2 : List Value → Shared → Prop, (∀ s1 us (ps : List (V × PyData)), Inv X pins σ H s1 → Vals (ps.map (·.1)) us → us.length ≤ sizeLine → (∀ p ∈ ps, Dp X.K H p.1 p.2) → SortOk (ps.map (·.2)) →
      (∀ p, H p = none → Q (.ref p) (upd H p (.lst ((srt ps).map (·.1))))) → Q2 us s1) → wpAny (model X.prog X.w) X.A.in1 (collect (.ref a)) Q2 X.xe s) :
    wpAny (model X.prog X.w) X.A (call (.builtin "sorted") [.ref a]) (EP X pins σ Q) X.xe s := by
  refine Calls.call_function_entry kind_sorted plain_sorted entry_sorted (args_sorted1 _) ?_
  unfold Builtin.«sorted»
  refine wpAny_bind (m := checkCount "sorted" 1 1 _) (wpAny_pure ?_)
  refine wpAny_bind (hcol _ fun s1 us ps I1 hv hlen hd ok q => ?_)
  refine wpAny_bind (wpAny_newList ?_ hlen)
  refine wpAny_bind (wpAny_holding (sort_new (X := X) (A := X.A.in1) (s := s1) (by show X.A.units + 1 + 66 < cLine; omega) (each_reads I1 hd hv) ok hlen fun h' out c hv' hg k => ?_))
  refine wpAny_pure ⟨_, rfl, ?_⟩
  have hn : H s1.heap.objs.size = none := I1.hok.fresh (Nat.le_refl _)
  refine ⟨.ref s1.heap.objs.size, _, I1.laid (t' := s1.toks) (o := .lst ((srt ps).map (·.1))) k (Nat.le_refl _) ⟨?_, out, c, hv', hg⟩, rfl, q _ hn⟩
  have e1 := hv.length
  rw [List.length_map, (srt_perm ps).length_eq, ← List.length_map (as := ps) (·.1), e1]
  exact hlen
def rSortedD (K : PySem.W.Frag) : List V → Hp → VK → Prop := fun vs H Q => ∃ (a : Addr) (ps : List (V × PyData)), vs = [V.ref a] ∧ SqL K H a (ps.map (·.1)) ∧ (∀ p ∈ ps, Dp K H p.1 p.2) ∧ SortOk (ps.map (·.2)) ∧
  ∀ p, H p = none → Q (.ref p) (upd H p (.lst ((srt ps).map (·.1))))
theorem cr_sortedD (hu : X.A.units + 70 < cLine) : CallR X (.builtin "sorted") (rSortedD X.K) := by
  intro pins s σ H xs us Q I r h
  obtain ⟨a, ps, rfl, hl, hd, ok, q⟩ := h
  rw [Vals.ref1 r]
  refine sorted_run (H := H) hu fun Q2 hQ2 => ?_
  obtain ⟨its, rv, pl, hz⟩ := I.list hl
  have hlen : its.length ≤ sizeLine := by rw [← rv.length]; exact hz
  refine collect_list pl.isList ?_ hlen
  refine hQ2 _ its ps (I.kept (t' := s.toks) fun b o e => ?_) rv hlen hd ok q
  rw [Heap.get?_update_ne _ _ _ _ (Nat.ne_of_lt (Heap.lt_size e)), Heap.get?_push_ne _ _ _ (Nat.ne_of_lt (Heap.lt_size e))]
  exact e
/-- sorted(set), of texts -/
def rSortedTS (w : World) : List V → Hp → VK → Prop := fun vs H Q => ∃ (a : Addr) (xs : List Str), vs = [V.ref a] ∧ H a = some (TSetO w a xs) ∧
  ∀ (ys : List Str) p, ys.Perm xs → H p = none → Q (.ref p) (upd H p (.lst ((ys.mergeSort fun x y => !PySem.W.dataLt (.str y) (.str x)).map V.str)))
/-- sorted(set), of tuples -/
def rSortedNS (K : PySem.W.Frag) (w : World) : List V → Hp → VK → Prop := fun vs H Q => ∃ (a : Addr) (L : List (Addr × PyData)), vs = [V.ref a] ∧ H a = some (NSetO w a L) ∧ (∀ p ∈ L, Dp K H (.ref p.1) p.2) ∧ SortOk (L.map (·.2)) ∧
  ∀ (M : List (Addr × PyData)) p, M.Perm L → H p = none → Q (.ref p) (upd H p (.lst ((srt (M.map fun q => (V.ref q.1, q.2))).map (·.1))))
theorem inv_kept' (I : Inv X pins σ H s) {s' : Shared} (kk : ∀ b o, s.heap.get? b = some o → s'.heap.get? b = some o) (hg : s'.gens = s.gens) (ho : s'.os = s.os) : Inv X pins σ H s' :=
  I.call' (ch := []) ho (Un.kept kk) (I.hok.kept kk) (by rw [hg]; exact I.bare) (fun _ z => nomatch z)
def tv (v : Value) : Str := match v with | .str x _ => x | _ => Str.empty
theorem str_perm_sort (ys : List Str) : (srt (ys.map fun x => (V.str x, PyData.str x))).map (·.1) = (ys.mergeSort fun x y => !PySem.W.dataLt (.str y) (.str x)).map V.str := by
  unfold srt
  rw [← PySem.W.sort_maps (r := fun x y => !PySem.W.dataLt (.str y) (.str x)) (fun x : Str => (V.str x, PyData.str x)) (fun _ _ _ _ => rfl), List.map_map]
  rfl
theorem sortOk_strs (ys : List Str) : SortOk (ys.map PyData.str) := by
  refine ⟨fun d hd e he => ?_, .inr fun d hd => ?_, fun d hd => ?_⟩
  · obtain ⟨x, _, rfl⟩ := List.mem_map.mp hd
    obtain ⟨y, _, rfl⟩ := List.mem_map.mp he
    rfl
  · obtain ⟨x, _, rfl⟩ := List.mem_map.mp hd
    exact ⟨by simp, by simp⟩
  · obtain ⟨x, _, rfl⟩ := List.mem_map.mp hd
    exact Nat.zero_le _
theorem cr_sortedTS (hc : X.calm = true) (hu : X.A.units + 70 < cLine) : CallR X (.builtin "sorted") (rSortedTS X.w) := by
  intro pins s σ H vs us Q I r h
  obtain ⟨a, xs, rfl, ha, q⟩ := h
  rw [Vals.ref1 r]
  obtain ⟨⟨es, ep, t, R⟩, _⟩ := I.hok a _ ha
  obtain ⟨o, ho, hex, hd⟩ := R.ob
  refine sorted_run (H := H) hu fun Q2 hQ2 => ?_
  refine collect_set (A := X.A.in1) (I.ok.hd hc) ⟨o, ho, hex.1, hd⟩ R.fits R.few R.ris R.led fun s1 out k1 hz g1 o1 pm => ?_
  have hstr : ∀ v ∈ out, ∃ tk, v = .str (tv v) tk := fun v hv => by
    obtain ⟨e, he, rfl⟩ := List.mem_map.mp (pm.mem_iff.mp hv)
    obtain ⟨x, tk, h1, _⟩ := R.good e he
    exact ⟨tk, by rw [h1]; rfl⟩
  have hys : (out.map tv).Perm xs := by
    have z := pm.map tv
    rw [List.map_map] at z
    have e : es.toList.map (tv ∘ fun x : Int × Value => x.2) = es.toList.map txtOf := rfl
    rw [e, R.txts] at z
    exact z
  have hps : (out.map tv).map (fun x => (V.str x, PyData.str x)) = out.map fun v => (V.str (tv v), PyData.str (tv v)) := by rw [List.map_map]; rfl
  have hlen : out.length ≤ sizeLine := by
    rw [pm.length_eq, List.length_map, Array.length_toList]
    exact fits_of_scanBound R.few
  refine hQ2 s1 out ((out.map tv).map fun x => (V.str x, PyData.str x)) (inv_kept' I k1 g1 o1) ?_ hlen (fun p hp => ?_) ?_ fun p hp => ?_
  · rw [hps, List.map_map]
    have key : ∀ l : List Value, (∀ v ∈ l, ∃ tk, v = .str (tv v) tk) → Vals (l.map ((fun x : V × PyData => x.1) ∘ fun v => (V.str (tv v), PyData.str (tv v)))) l := by
      intro l
      induction l with
      | nil => intro _; exact .nil
      | cons v l ih =>
        intro hl
        exact .cons (hl v List.mem_cons_self) (ih fun u hu => hl u (List.mem_cons_of_mem _ hu))
    exact key out hstr
  · obtain ⟨x, _, rfl⟩ := List.mem_map.mp hp
    exact .str x
  · rw [List.map_map]
    exact sortOk_strs _
  · rw [str_perm_sort]
    exact q _ p hys hp
theorem cr_sortedNS (hc : X.calm = true) (hu : X.A.units + 70 < cLine) : CallR X (.builtin "sorted") (rSortedNS X.K X.w) := by
  intro pins s σ H vs us Q I r h
  obtain ⟨a, L, rfl, ha, hL, ok, q⟩ := h
  rw [Vals.ref1 r]
  obtain ⟨⟨es, ep, t, R⟩, _⟩ := I.hok a _ ha
  obtain ⟨o, ho, hex, hd⟩ := R.ob
  have hsz : es.size < scanBound := by
    rw [R.size]
    have := R.few
    unfold scanBound
    omega
  refine sorted_run (H := H) hu fun Q2 hQ2 => ?_
  refine collect_set (A := X.A.in1) (I.ok.hd hc) ⟨o, ho, hex.1, hd⟩ R.fits hsz R.tab.ris R.led fun s1 out k1 hz g1 o1 pm => ?_
  have hes : es.toList.map (fun x : Int × Value => x.2) = L.map fun p => Value.ref p.1 := by
    rw [R.rows]
    unfold nrows
    rw [List.map_map, List.map_map]
    rfl
  rw [hes] at pm
  obtain ⟨M, pM, rfl⟩ := perm_lift (fun p : Addr × PyData => Value.ref p.1) pm L rfl
  have hlen : (M.map fun p => Value.ref p.1).length ≤ sizeLine := by
    rw [pm.length_eq, ← hes, List.length_map, Array.length_toList]
    exact fits_of_scanBound hsz
  refine hQ2 s1 _ (M.map fun q => (V.ref q.1, q.2)) (inv_kept' I k1 g1 o1) ?_ hlen (fun p hp => ?_) ?_ fun p hp => q M p pM hp
  · rw [List.map_map]
    have key : ∀ l : List (Addr × PyData), Vals (l.map ((fun x : V × PyData => x.1) ∘ fun q => (V.ref q.1, q.2))) (l.map fun p => Value.ref p.1) := by
      intro l
      induction l with
      | nil => exact .nil
      | cons p l ih => exact .cons rfl ih
    exact key M
  · obtain ⟨p0, h0, rfl⟩ := List.mem_map.mp hp
    exact hL p0 (pM.mem_iff.mp h0)
  · rw [List.map_map]
    have pp : (M.map fun q => q.2).Perm (L.map fun q => q.2) := pM.map _
    exact ⟨fun d hd e he => ok.al d (pp.mem_iff.mp hd) e (pp.mem_iff.mp he), ok.kd.imp (fun z d hd => z d (pp.mem_iff.mp hd)) (fun z d hd => z d (pp.mem_iff.mp hd)), fun d hd => ok.dp d (pp.mem_iff.mp hd)⟩
end
end Wc
set_option maxRecDepth 100000
set_option maxHeartbeats 4000000
/-! W8: set comprehensions of any kind of members, one clause and two. -/
namespace Wc
open PySem PySem.Spec PyProof.Rows L2 PpSet

section
variable {prog : Program} {w : World} {A : Around} {R : Result → Shared → Prop} {s : Shared} {elt t0 i0 t1 i1 : Expr} {ifs0 ifs1 : List Expr} {scope : Scope} {pos : Pos} {it acc : Value} {env : Env}
theorem setTurn_out (elt t0 i0 t1 i1 : Expr) (ifs0 ifs1 : List Expr) (scope : Scope) (pos : Pos) (it acc : Value) (env : Env) :
    compTurn (.SetComp elt [⟨t0, i0, ifs0, 0⟩, ⟨t1, i1, ifs1, 0⟩] scope pos) 0 it acc env = (do
      standAt i0.pos
      match ← pyNext it with
      | none => pure (.done .next)
      | some v =>
        letOwnedTupleGo t0 it v
        assign t0 env v
        let mut ok := true
        for c in ifs0 do
          if ok then ok ← isTrue c env (eval c env)
        if ok then
          let x ← eval i1 env
          standAt i1.pos
          let x ← foldedSetIterable i1 env x
          let _ ← runOwn (.compStart (.SetComp elt [⟨t0, i0, ifs0, 0⟩, ⟨t1, i1, ifs1, 0⟩] scope pos) 1 (← holding [x] (pyIter x)) acc env) env
        again (.compLoop (.SetComp elt [⟨t0, i0, ifs0, 0⟩, ⟨t1, i1, ifs1, 0⟩] scope pos) 0 it acc env)) := by rfl
theorem setTurn_in (elt t0 i0 t1 i1 : Expr) (ifs0 ifs1 : List Expr) (scope : Scope) (pos : Pos) (it acc : Value) (env : Env) :
    compTurn (.SetComp elt [⟨t0, i0, ifs0, 0⟩, ⟨t1, i1, ifs1, 0⟩] scope pos) 1 it acc env = (do
      standAt i1.pos
      match ← pyNext it with
      | none => pure (.done .next)
      | some v =>
        letOwnedTupleGo t1 it v
        assign t1 env v
        let mut ok := true
        for c in ifs1 do
          if ok then ok ← isTrue c env (eval c env)
        if ok then
          (do let v ← eval elt env; standAt elt.pos; let _ ← call (.builtin "set.add") [acc, v])
        again (.compLoop (.SetComp elt [⟨t0, i0, ifs0, 0⟩, ⟨t1, i1, ifs1, 0⟩] scope pos) 1 it acc env)) := by rfl
/-- what a turn of a clause's loop is to show: nothing is raised on its way -/
abbrev TurnW (prog : Program) (w : World) (A : Around) (env : Env) (tg : Expr) (it : Value) (ifs : List Expr) (Stop : Shared → Prop) (Yes No : Shared → Prop) (s : Shared) : Prop :=
  wpAny (model prog w) A (pyNext it) (fun r s₁ => match r with
    | none => Stop s₁
    | some v => wpAny (model prog w) A (letOwnedTupleGo tg it v) (fun _ s₁' => wpAny (model prog w) A (assign tg env v) (fun _ s₂ =>
        wpAny (model prog w) A (forIn ifs true fun c r => if r = true then do let ok ← isTrue c env (eval c env); pure (ForInStep.yield ok) else pure (ForInStep.yield r)) (fun ok s₃ =>
          if ok = true then Yes s₃ else No s₃) (fun _ _ => False) s₂) (fun _ _ => False) s₁') (fun _ _ => False) s₁) (fun _ _ => False) s
/-- the first clause's loop, of two -/
theorem setLoop_out (hs : ∀ x, foldedSetIterable i1 env x = pure x) (I : Nat → Shared → Prop)
    (turn : ∀ n s, I n s → TurnW prog w A env t0 it ifs0 (fun s₁ => R (.ok .next) s₁)
      (fun s₃ => wpAny (model prog w) A (eval i1 env) (fun x s₄ => wpAny (model prog w) A (pyIter x) (fun it1 s₅ =>
        codeAny (model prog w) A (.compStart (.SetComp elt [⟨t0, i0, ifs0, 0⟩, ⟨t1, i1, ifs1, 0⟩] scope pos) 1 it1 acc env) (fun r s' => match r with
          | .ok _ => ∃ m, m < n ∧ I m s'
          | .error _ => False) s₅) (fun _ _ => False) s₄) (fun _ _ => False) s₃)
      (fun s₃ => ∃ m, m < n ∧ I m s₃) s)
    (n : Nat) (h : I n s) : codeAny (model prog w) A (.compLoop (.SetComp elt [⟨t0, i0, ifs0, 0⟩, ⟨t1, i1, ifs1, 0⟩] scope pos) 0 it acc env) R s := by
  refine codeAny_loop rfl I (fun n s hI => ?_) n h
  show wpAny _ A ((compTurn (.SetComp elt [⟨t0, i0, ifs0, 0⟩, ⟨t1, i1, ifs1, 0⟩] scope pos) 0 it acc env).onRaise (fun x => do noteFrame x env; theTreesLotGoes x)) _ _ s
  refine wpAny_noted ?_
  rw [setTurn_out]
  refine wpAny_bind (wpAny_standAt (wpAny_bind (thnF (turn n s hI) fun r s₁ h₁ => ?_)))
  cases r with
  | none => exact wpAny_pure h₁
  | some v =>
    refine wpAny_bind (thnF h₁ fun _ s₁' h₁' => ?_)
    refine wpAny_bind (thnF h₁' fun _ s₂ h₂ => wpAny_bind (thnF h₂ fun ok s₃ h₃ => ?_))
    cases ok with
    | false => exact wpAny_pure ⟨rfl, h₃⟩
    | true =>
      refine wpAny_bind (thnF h₃ fun x s₄ h₄ => ?_)
      refine wpAny_bind (wpAny_standAt (wpAny_bind (wpAny_of_eq (hs x) (wpAny_bind (wpAny_holding (thnF h₄ fun it1 s₅ h₅ => ?_))))))
      refine wpAny_bind (wpAny_runOwn ?_)
      rw [Around.mark_none]
      refine codeAny_mono h₅ fun r s' hr => ?_
      cases r with
      | ok f =>
        first
          | exact wpAny_pure ⟨rfl, hr⟩
          | exact wpAny_bind (wpAny_pure (wpAny_pure ⟨rfl, hr⟩))
      | error e => exact hr.elim
/-- the second clause's -/
theorem setLoop_in (I : Nat → Shared → Prop)
    (turn : ∀ n s, I n s → TurnW prog w A env t1 it ifs1 (fun s₁ => R (.ok .next) s₁)
      (fun s₃ => wpAny (model prog w) A (eval elt env) (fun x s₄ => wpAny (model prog w) A (call (.builtin "set.add") [acc, x]) (fun _ s₅ => ∃ m, m < n ∧ I m s₅) (fun _ _ => False) s₄) (fun _ _ => False) s₃)
      (fun s₃ => ∃ m, m < n ∧ I m s₃) s)
    (n : Nat) (h : I n s) : codeAny (model prog w) A (.compLoop (.SetComp elt [⟨t0, i0, ifs0, 0⟩, ⟨t1, i1, ifs1, 0⟩] scope pos) 1 it acc env) R s := by
  refine codeAny_loop rfl I (fun n s hI => ?_) n h
  show wpAny _ A ((compTurn (.SetComp elt [⟨t0, i0, ifs0, 0⟩, ⟨t1, i1, ifs1, 0⟩] scope pos) 1 it acc env).onRaise (fun x => do noteFrame x env; theTreesLotGoes x)) _ _ s
  refine wpAny_noted ?_
  rw [setTurn_in]
  refine wpAny_bind (wpAny_standAt (wpAny_bind (thnF (turn n s hI) fun r s₁ h₁ => ?_)))
  cases r with
  | none => exact wpAny_pure h₁
  | some v =>
    refine wpAny_bind (thnF h₁ fun _ s₁' h₁' => ?_)
    refine wpAny_bind (thnF h₁' fun _ s₂ h₂ => wpAny_bind (thnF h₂ fun ok s₃ h₃ => ?_))
    cases ok with
    | false => exact wpAny_pure ⟨rfl, h₃⟩
    | true => exact wpAny_bind (wpAny_bind (thnF h₃ fun x s₄ h₄ => wpAny_bind (wpAny_standAt (wpAny_bind (thnF h₄ fun _ s₅ h₅ => wpAny_pure (wpAny_pure ⟨rfl, h₅⟩))))))
/-- the only clause's -/
theorem setLoop_one (I : Nat → Shared → Prop)
    (turn : ∀ n s, I n s → TurnW prog w A env t0 it ifs0 (fun s₁ => R (.ok .next) s₁)
      (fun s₃ => wpAny (model prog w) A (eval elt env) (fun x s₄ => wpAny (model prog w) A (call (.builtin "set.add") [acc, x]) (fun _ s₅ => ∃ m, m < n ∧ I m s₅) (fun _ _ => False) s₄) (fun _ _ => False) s₃)
      (fun s₃ => ∃ m, m < n ∧ I m s₃) s)
    (n : Nat) (h : I n s) : codeAny (model prog w) A (.compLoop (.SetComp elt [⟨t0, i0, ifs0, 0⟩] scope pos) 0 it acc env) R s := by
  refine codeAny_loop rfl I (fun n s hI => ?_) n h
  show wpAny _ A ((compTurn (.SetComp elt [⟨t0, i0, ifs0, 0⟩] scope pos) 0 it acc env).onRaise (fun x => do noteFrame x env; theTreesLotGoes x)) _ _ s
  refine wpAny_noted ?_
  rw [compTurn_set]
  refine wpAny_bind (wpAny_standAt (wpAny_bind (thnF (turn n s hI) fun r s₁ h₁ => ?_)))
  cases r with
  | none => exact wpAny_pure h₁
  | some v =>
    refine wpAny_bind (thnF h₁ fun _ s₁' h₁' => ?_)
    refine wpAny_bind (thnF h₁' fun _ s₂ h₂ => wpAny_bind (thnF h₂ fun ok s₃ h₃ => ?_))
    cases ok with
    | false => exact wpAny_pure ⟨rfl, h₃⟩
    | true => exact wpAny_bind (wpAny_bind (thnF h₃ fun x s₄ h₄ => wpAny_bind (wpAny_standAt (wpAny_bind (thnF h₄ fun _ s₅ h₅ => wpAny_pure (wpAny_pure ⟨rfl, h₅⟩))))))
theorem setStart_in (h0 : codeAny (model prog w) A (.compLoop (.SetComp elt [⟨t0, i0, ifs0, 0⟩, ⟨t1, i1, ifs1, 0⟩] scope pos) 1 it acc env) R s)
    (h : wpAny (model prog w) A (pyIter it) (fun it' s' => codeAny (model prog w) A (.compLoop (.SetComp elt [⟨t0, i0, ifs0, 0⟩, ⟨t1, i1, ifs1, 0⟩] scope pos) 1 it' acc env) R s')
      (notedBy (model prog w) A env fun x s' => R (.error x) s') s) :
    codeAny (model prog w) A (.compStart (.SetComp elt [⟨t0, i0, ifs0, 0⟩, ⟨t1, i1, ifs1, 0⟩] scope pos) 1 it acc env) R s := by
  refine codeAny_of_tree ?_
  show wpAny _ _ ((compStart (.SetComp elt [⟨t0, i0, ifs0, 0⟩, ⟨t1, i1, ifs1, 0⟩] scope pos) 1 it acc env).onRaise (fun x => do noteFrame x env; standAt theWindowsPlace)) _ _ s
  refine wpAny_notedAt ?_
  unfold compStart
  show wpAny _ _ (ask >>= _) _ _ s
  refine wpAny_bind (wpAny_askSetting (wpAny_ite ?_))
  split
  · first
      | exact wpAny_bind (wpAny_pure (wpAny_pure (And.intro rfl h0)))
      | exact wpAny_pure (And.intro rfl h0)
  · first
      | exact wpAny_bind (wpAny_rule (wpAny_bind (wpAny_standAt (wpAny_bind (wpAny_mono h (fun it' s' h' => wpAny_pure (And.intro rfl h')) fun _ _ x => x)))))
      | (refine wpAny_bind (wpAny_rule ?_); show wpAny _ _ (standAt i1.pos >>= _) _ _ s; exact wpAny_bind (wpAny_standAt (wpAny_bind (wpAny_mono h (fun it' s' h' => wpAny_pure (And.intro rfl h')) fun _ _ x => x))))
end

section
variable {X : Cx}
/-- the block of a set comprehension, up to its first loop; behind it the set at D is the value -/
theorem set_block {new : Addr → HO} {ad : TAdd} {pins : List (Addr × Obj)} {s : Shared} {σ : L2.St} {H : Hp} {Q : VK} {elt tg iter : Expr} {ifs : List Expr} {rest : List Comprehension} {scope : Scope} {own : List (Str × Nat)} {pos : Pos} {wi : TI} {Kn : It → Addr → Hp → Prop}
    (kd : SetKd X.prog X.w X.K X.A new ad) (hc : X.calm = true) (hN : X.N.Nodup) (I : Inv X pins σ H s) (hi : PI X tg iter wi) (ok : BlkOk X.N X.env.scope scope own) (hs : ∀ x, foldedSetIterable iter X.env x = pure x)
    (h : wi σ H fun J H1 => ∀ D, H1 D = none → Kn J D (upd H1 D (new D)))
    (loop : ∀ (s3 s4 : Shared) (H3 : Hp) (D : Addr) (cl : List (Str × Addr)) (C : Addr) (fp : List Addr) (it : Addr) (tn : Nat → Heap → Prop) (J : It), Kn J D H3 → Turn X.prog X.w X.K tg J fp it tn →
      Inv (X.blk s3 H3 scope (compEnvC scope cl C X.env) fp) [] (wipe σ (own.map (·.2))) H3 s4 → tn 0 s4.heap → (∀ b ∈ fp, H3 b = none) →
      codeAny (model X.prog X.w) X.A (.compLoop (.SetComp elt (⟨tg, iter, ifs, 0⟩ :: rest) scope pos) 0 (.ref it) (.ref D) (compEnvC scope cl C X.env))
        (fun r s' => r = .ok .next ∧ ∃ H5, Inv (X.blk s3 H3 scope (compEnvC scope cl C X.env) fp) [] (wipe σ (own.map (·.2))) H5 s' ∧ Q (.ref D) H5) s4) :
    wpAny (model X.prog X.w) X.A (eval (.SetComp elt (⟨tg, iter, ifs, 0⟩ :: rest) scope pos) X.env) (EP X pins σ Q) X.xe s := by
  rw [eval_SetComp]
  have hfree : ∀ y ∈ scope.names, y.2 = .free → ∃ c, X.env.cells.lookup y.1 = some c := fun y hy e => by
    rcases ok.free y hy e with k | k
    · exact I.ok.has _ (.inl k)
    · exact I.ok.has _ (.inr k)
  refine wpAny_comprehension_free (use := none) rfl hs (closure_ok hfree) ok.kind (fun y hy e => by rw [ok.uniq y hy, e])
    (thn (hi.run pins s σ H _ I h) fun xv s1 hx => thn hx fun itv s2 h2 => ?_)
  obtain ⟨it, fp, tn, J, H2, e, I2, T, st2, f2, q⟩ := h2
  subst e
  refine newSet_ok (newEnv_comp ?_)
  generalize hD : s2.heap.objs.size = D
  have hDn : H2 D = none := I2.hok.fresh (Nat.le_of_eq hD)
  have kn := q D hDn
  generalize hs3 : ({ s2 with heap := s2.heap.push (newSetObj X.w) } : Shared) = s3
  have I3 : Inv X pins σ (upd H2 D (new D)) s3 := by
    rw [← hs3]
    refine I2.laid (t' := s2.toks) (fun b o e => Heap.get?_push_of_some _ e) (Nat.le_of_eq hD) ?_
    rw [← hD]
    exact kd.fresh _ _ _ (Heap.get?_push_size _ rfl)
  have h3 : s3.heap = s2.heap.push (newSetObj X.w) := by rw [← hs3]
  have f3 : ∀ b ∈ fp, FpOk X pins (upd H2 D (new D)) b ∧ b < s3.heap.objs.size := fun b hb => by
    have hlt : b < s2.heap.objs.size := by
      obtain ⟨o, e, _⟩ := T.obj _ _ st2 b hb
      exact Heap.lt_size e
    refine ⟨⟨?_, (f2 b hb).2⟩, by rw [h3, Heap.size_push]; exact Nat.lt_succ_of_lt hlt⟩
    rw [upd_ne (by rw [← hD]; exact Nat.ne_of_lt hlt)]
    exact (f2 b hb).1
  have st3 : tn 0 s3.heap := T.keep _ _ _ st2 fun b _ o e => by rw [h3]; exact Heap.get?_push_of_some _ e
  have I4 := block_start I3 ok hN f3
  generalize hcl : cellsFrom (s3.heap.objs.size + 1) scope.names (cloFrom X.env.cells scope.names []) = cl at I4
  show codeAny _ _ (.compStart (.SetComp elt (⟨tg, iter, ifs, 0⟩ :: rest) scope pos) 0 (.ref it) (.ref D) (compEnvC scope cl s3.heap.objs.size X.env)) (compPost (model X.prog X.w) X.A X.xe none (EP X pins σ Q) (.ref D) s3.heap.objs.size) { s3 with heap := pushCells (s3.heap.push { cls := .type "dict", data := .dict #[] }) scope.names }
  have cL : (compEnvC scope cl s3.heap.objs.size X.env).locals = s3.heap.objs.size := rfl
  generalize hs4 : ({ s3 with heap := pushCells (s3.heap.push { cls := .type "dict", data := .dict #[] }) scope.names } : Shared) = s4 at I4 ⊢
  have st4 : tn 0 s4.heap := T.keep _ _ _ st3 fun b _ o e => by rw [← hs4]; exact pushCells_keeps _ _ _ _ (Heap.get?_push_of_some _ e)
  have lp := loop s3 s4 _ D cl s3.heap.objs.size fp it tn J kn T I4 st4 fun b hb => (f3 b hb).1.1
  have fin := codeAny_mono (R' := compPost (model X.prog X.w) X.A X.xe none (EP X pins σ Q) (.ref D) s3.heap.objs.size) lp fun r s' hr => by
    obtain ⟨rfl, H5, I6, qq⟩ := hr
    have I7 : Inv X pins σ H5 s' := I3.call' (ch := fp) I6.os I6.base I6.hok I6.bare fun b hb => ⟨(f3 b hb).1.2.2.2.1, (f3 b hb).1.2.1, (f3 b hb).1.2.2.2.2.1, (f3 b hb).1.2.2.2.2.2⟩
    have nC : H5 s3.heap.objs.size = none := I6.free
    obtain ⟨m, hn, _⟩ := I6.loc
    have hn : s'.heap.Ns s3.heap.objs.size m := hn
    obtain ⟨f0, f1, f2', f3', f4, f5⟩ := I3.fpOk (Nat.le_refl _) nC
    exact ⟨m, hn, fun h'' sb => ⟨.ref D, H5, I7.turned (t' := s'.toks) (fun b o hb e => (sb.2 b hb).trans e) f0 f1 f3' f4 f5, rfl, qq⟩⟩
  exact codeAny_compStart_set fin (T.self X.A 0 _ _ _ st4 fin)
end
end Wc
set_option maxRecDepth 100000
set_option maxHeartbeats 4000000
/-! W9: {elt for target in iter if ..}, {elt for .. for ..} as terms. -/
namespace Wc
open PySem PySem.Spec PyProof.Rows L2 PpSet

/-- the members' walk: what is to hold of the turns -/
def kSc1 (ad : TAdd) (g : TG) (tt : TT) (te : TE) (vs : List Nat) (σ : L2.St) (Q : VK) (J : It) (D : Addr) (H1 : Hp) : Prop := ∃ W : Nat → Nat → Hp → Prop, (∃ m, W 0 m H1) ∧ ∀ i m H, W i m H →
  (J.stop i H ∧ Q (.ref D) H) ∨ (J.go i H ∧ ∃ Nx : Hp → Prop, (∀ H', Nx H' → ∃ m', m' < m ∧ W (i + 1) m' H') ∧ ∀ x H', J.yld i H x H' → g x (wipe σ vs) H' fun σ2 H2 => wipe σ2 vs = wipe σ vs ∧ tt σ2 H2 fun b H3 =>
    if b = true then te σ2 H3 fun y H4 => ad D y H4 Nx else Nx H3)
def tSc1 (new : Addr → HO) (ad : TAdd) (wi : TI) (g : TG) (tt : TT) (te : TE) (vs : List Nat) : TE := fun σ H Q => wi σ H fun J H1 => ∀ D, H1 D = none → kSc1 ad g tt te vs σ Q J D (upd H1 D (new D))
def kSc2 (ad : TAdd) (g : TG) (tt : TT) (wi1 : TI) (g1 : TG) (tt1 : TT) (te : TE) (vs vs1 : List Nat) (σ : L2.St) (Q : VK) (J : It) (D : Addr) (H1 : Hp) : Prop := ∃ W : Nat → Nat → Hp → Prop, (∃ m, W 0 m H1) ∧ ∀ i m H, W i m H →
  (J.stop i H ∧ Q (.ref D) H) ∨ (J.go i H ∧ ∃ Nx : Hp → Prop, (∀ H', Nx H' → ∃ m', m' < m ∧ W (i + 1) m' H') ∧ ∀ x H', J.yld i H x H' → g x (wipe σ vs) H' fun σ2 H2 => wipe σ2 vs = wipe σ vs ∧ tt σ2 H2 fun b H3 =>
    if b = true then wi1 σ2 H3 fun J1 H4 => ∃ W1 : Nat → Nat → Hp → Prop, (∃ m, W1 0 m H4) ∧ ∀ j k H, W1 j k H →
      (J1.stop j H ∧ Nx H) ∨ (J1.go j H ∧ ∃ Nx1 : Hp → Prop, (∀ H', Nx1 H' → ∃ k', k' < k ∧ W1 (j + 1) k' H') ∧ ∀ x H', J1.yld j H x H' → g1 x (wipe σ2 vs1) H' fun σ3 H5 => wipe σ3 vs1 = wipe σ2 vs1 ∧ tt1 σ3 H5 fun b H6 =>
        if b = true then te σ3 H6 fun y H7 => ad D y H7 Nx1 else Nx1 H6)
    else Nx H3)
def tSc2 (new : Addr → HO) (ad : TAdd) (wi : TI) (g : TG) (tt : TT) (wi1 : TI) (g1 : TG) (tt1 : TT) (te : TE) (vs vs1 : List Nat) : TE := fun σ H Q => wi σ H fun J H1 => ∀ D, H1 D = none → kSc2 ad g tt wi1 g1 tt1 te vs vs1 σ Q J D (upd H1 D (new D))

section
variable {X : Cx} {new : Addr → HO} {ad : TAdd}
/-- in a block: the walk's objects are left alone -/
theorem blk_stat {s3 : Shared} {H3 : Hp} {scope : Scope} {ce : Env} {fp : List Addr} {σ' : L2.St} {H' : Hp} {s' : Shared} (I' : Inv (X.blk s3 H3 scope ce fp) [] σ' H' s') (hn : ∀ b ∈ fp, H' b = none) : ∀ b ∈ fp, FpOk (X.blk s3 H3 scope ce fp) [] H' b := fun b hb =>
  ⟨hn b hb, (I'.ok.exf b hb).1, I'.ok.exfs b hb, .inl hb, fun x c e => (I'.ok.exf b hb).2 x c e, fun p hp => absurd (show p ∈ ([] : List (Addr × Obj)) ++ [] from hp) (by simp)⟩
theorem pin_at {Y : Cx} {pins : List (Addr × Obj)} {fp : List Addr} {h : Heap} {σ : L2.St} {H : Hp} {s : Shared} (I : Inv Y (pins ++ pinsAt fp h) σ H s) : ∀ b ∈ fp, ∀ o, h.get? b = some o → s.heap.get? b = some o ∧ H b = none := fun b hb o e =>
  let z := I.pin (b, o) (List.mem_append_right _ (List.mem_append_right _ (mem_pinsAt hb e)))
  ⟨z.1, z.2.1⟩
theorem pe_sc1 {elt tg iter : Expr} {ifs : List Expr} {scope : Scope} {own : List (Str × Nat)} {pos : Pos} {wi : TI} {g : TG} {tt : TT} {te : TE} (kd : SetKd X.prog X.w X.K X.A new ad) (hc : X.calm = true) (hN : X.N.Nodup) (hi : PI X tg iter wi) (ok : BlkOk X.N X.env.scope scope own)
    (hg : ∀ (s : Shared) (H : Hp) (C : Addr) (cl : List (Str × Addr)) (fp : List Addr), PG (X.blk s H scope (compEnvC scope cl C X.env) fp) tg g) (ht : ∀ (s : Shared) (H : Hp) (C : Addr) (cl : List (Str × Addr)) (fp : List Addr), PTs (X.blk s H scope (compEnvC scope cl C X.env) fp) ifs tt)
    (he : ∀ (s : Shared) (H : Hp) (C : Addr) (cl : List (Str × Addr)) (fp : List Addr), PE (X.blk s H scope (compEnvC scope cl C X.env) fp) elt te) (hs : ∀ x, foldedSetIterable iter X.env x = pure x := by intro _; rfl) :
    PE X (.SetComp elt [⟨tg, iter, ifs, 0⟩] scope pos) (tSc1 new ad wi g tt te (own.map (·.2))) := by
  refine ⟨fun pins s σ H Q I h => ?_⟩
  refine set_block (Kn := kSc1 ad g tt te (List.map (fun p : Str × Nat => p.2) own) σ Q) kd hc hN I hi ok hs h fun s3 s4 H3 D cl C fp it tn J kn T I4 st4 n4 => ?_
  obtain ⟨W, ⟨m0, w0⟩, turn⟩ := kn
  have pg := hg s3 H3 C cl fp
  have pt := ht s3 H3 C cl fp
  have pe := he s3 H3 C cl fp
  generalize compEnvC scope cl C X.env = ce at I4 pg pt pe ⊢
  refine setLoop_one (fun n s' => ∃ i H', Inv (X.blk s3 H3 scope ce fp) [] (wipe σ (own.map (·.2))) H' s' ∧ tn i s'.heap ∧ (∀ b ∈ fp, H' b = none) ∧ W i n H') ?_ m0 ⟨0, H3, I4, st4, n4, w0⟩
  rintro n s5 ⟨i, H5, I5, st5, n5, w5⟩
  rcases turn i n H5 w5 with ⟨stop, qq⟩ | ⟨go, Nx, hNx, step⟩
  · refine thnF (T.done (X.blk s3 H3 scope ce fp) rfl rfl rfl hc i [] s5 _ H5 (fun _ _ => False) I5 (blk_stat I5 n5) st5 stop) fun r s6 ⟨hr, I6⟩ => ?_
    subst hr
    exact ⟨rfl, H5, I6, qq⟩
  · refine thnF (T.item (X.blk s3 H3 scope ce fp) rfl rfl rfl hc i [] s5 _ H5 (fun _ _ => False) I5 (blk_stat I5 n5) st5 go) fun r s6 ⟨u, hr, h6⟩ => ?_
    subst hr
    refine thnF h6 fun _ s7 ⟨x, H7, I7, r7, y7, st7, n7⟩ => ?_
    have I7' := I7.pinned (blk_stat I7 n7) (T.obj _ _ st7)
    refine thnF (pg.run _ s7 _ H7 x u _ I7' r7 (step x H7 y7)) fun _ s8 ⟨σ8, H8, I8, hw8, q8⟩ => ?_
    refine thnF (pt.run _ s8 σ8 H8 _ I8 q8) fun b s9 ⟨H9, I9, q9⟩ => ?_
    have fin : ∀ {s' : Shared} {H' : Hp}, Inv (X.blk s3 H3 scope ce fp) ([] ++ pinsAt fp s7.heap) σ8 H' s' → Nx H' → ∃ m, m < n ∧ ∃ i H', Inv (X.blk s3 H3 scope ce fp) [] (wipe σ (own.map (·.2))) H' s' ∧ tn i s'.heap ∧ (∀ b ∈ fp, H' b = none) ∧ W i m H' := fun {s' H'} I' nx => by
      obtain ⟨m', hm, w'⟩ := hNx H' nx
      have hl : (wipe σ (own.map (·.2))).length = σ8.length := by rw [← hw8, wipe_length]
      refine ⟨m', hm, i + 1, H', (I'.unpinned (pins := [])).weak hl (fun j v e => ?_), T.keep _ _ _ st7 fun b hb o e => (pin_at I' b hb o e).1, fun b hb => ?_, w'⟩
      · rw [← hw8] at e
        exact (wipe_some e).1
      · obtain ⟨o, e, _⟩ := T.obj _ _ st7 b hb
        exact (pin_at I' b hb o e).2
    cases b with
    | false =>
      simp only [Bool.false_eq_true, if_false] at q9 ⊢
      exact fin I9 q9
    | true =>
      simp only [if_true] at q9 ⊢
      refine thnF (pe.run _ s9 σ8 H9 _ I9 q9) fun z s10 ⟨yv, H10, I10, r10, had⟩ => ?_
      exact kd.add (X.blk s3 H3 scope ce fp) rfl rfl rfl rfl _ s10 σ8 H10 D yv z Nx _ _ I10 r10 had fun s' H' I' nx => fin I' nx
theorem pe_sc2 {elt tg iter tg1 iter1 : Expr} {ifs ifs1 : List Expr} {scope : Scope} {own : List (Str × Nat)} {vs1 : List Nat} {pos : Pos} {wi wi1 : TI} {g g1 : TG} {tt tt1 : TT} {te : TE} (kd : SetKd X.prog X.w X.K X.A new ad) (hc : X.calm = true) (hN : X.N.Nodup) (hi : PI X tg iter wi) (ok : BlkOk X.N X.env.scope scope own) (hv : ∀ i ∈ vs1, i ∈ own.map (·.2))
    (hg : ∀ (s : Shared) (H : Hp) (C : Addr) (cl : List (Str × Addr)) (fp : List Addr), PG (X.blk s H scope (compEnvC scope cl C X.env) fp) tg g) (ht : ∀ (s : Shared) (H : Hp) (C : Addr) (cl : List (Str × Addr)) (fp : List Addr), PTs (X.blk s H scope (compEnvC scope cl C X.env) fp) ifs tt)
    (hi1 : ∀ (s : Shared) (H : Hp) (C : Addr) (cl : List (Str × Addr)) (fp : List Addr), PI (X.blk s H scope (compEnvC scope cl C X.env) fp) tg1 iter1 wi1)
    (hg1 : ∀ (s : Shared) (H : Hp) (C : Addr) (cl : List (Str × Addr)) (fp : List Addr), PG (X.blk s H scope (compEnvC scope cl C X.env) fp) tg1 g1) (ht1 : ∀ (s : Shared) (H : Hp) (C : Addr) (cl : List (Str × Addr)) (fp : List Addr), PTs (X.blk s H scope (compEnvC scope cl C X.env) fp) ifs1 tt1)
    (he : ∀ (s : Shared) (H : Hp) (C : Addr) (cl : List (Str × Addr)) (fp : List Addr), PE (X.blk s H scope (compEnvC scope cl C X.env) fp) elt te) (hs : ∀ x, foldedSetIterable iter X.env x = pure x := by intro _; rfl) (hs1 : ∀ env x, foldedSetIterable iter1 env x = pure x := by intro _ _; rfl) :
    PE X (.SetComp elt [⟨tg, iter, ifs, 0⟩, ⟨tg1, iter1, ifs1, 0⟩] scope pos) (tSc2 new ad wi g tt wi1 g1 tt1 te (own.map (·.2)) vs1) := by
  refine ⟨fun pins s σ H Q I h => ?_⟩
  refine set_block (Kn := kSc2 ad g tt wi1 g1 tt1 te (List.map (fun p : Str × Nat => p.2) own) vs1 σ Q) kd hc hN I hi ok hs h fun s3 s4 H3 D cl C fp it tn J kn T I4 st4 n4 => ?_
  obtain ⟨W, ⟨m0, w0⟩, turn⟩ := kn
  have pg := hg s3 H3 C cl fp
  have pt := ht s3 H3 C cl fp
  have pe := he s3 H3 C cl fp
  have pi1 := hi1 s3 H3 C cl fp
  have pg1 := hg1 s3 H3 C cl fp
  have pt1 := ht1 s3 H3 C cl fp
  generalize compEnvC scope cl C X.env = ce at I4 pg pt pe pi1 pg1 pt1 ⊢
  refine setLoop_out (hs1 ce) (fun n s' => ∃ i H', Inv (X.blk s3 H3 scope ce fp) [] (wipe σ (own.map (·.2))) H' s' ∧ tn i s'.heap ∧ (∀ b ∈ fp, H' b = none) ∧ W i n H') ?_ m0 ⟨0, H3, I4, st4, n4, w0⟩
  rintro n s5 ⟨i, H5, I5, st5, n5, w5⟩
  rcases turn i n H5 w5 with ⟨stop, qq⟩ | ⟨go, Nx, hNx, step⟩
  · refine thnF (T.done (X.blk s3 H3 scope ce fp) rfl rfl rfl hc i [] s5 _ H5 (fun _ _ => False) I5 (blk_stat I5 n5) st5 stop) fun r s6 ⟨hr, I6⟩ => ?_
    subst hr
    exact ⟨rfl, H5, I6, qq⟩
  · refine thnF (T.item (X.blk s3 H3 scope ce fp) rfl rfl rfl hc i [] s5 _ H5 (fun _ _ => False) I5 (blk_stat I5 n5) st5 go) fun r s6 ⟨u, hr, h6⟩ => ?_
    subst hr
    refine thnF h6 fun _ s7 ⟨x, H7, I7, r7, y7, st7, n7⟩ => ?_
    have I7' := I7.pinned (blk_stat I7 n7) (T.obj _ _ st7)
    refine thnF (pg.run _ s7 _ H7 x u _ I7' r7 (step x H7 y7)) fun _ s8 ⟨σ8, H8, I8, hw8, q8⟩ => ?_
    refine thnF (pt.run _ s8 σ8 H8 _ I8 q8) fun b s9 ⟨H9, I9, q9⟩ => ?_
    have fin : ∀ {σ9 : L2.St} {s' : Shared} {H' : Hp}, Inv (X.blk s3 H3 scope ce fp) ([] ++ pinsAt fp s7.heap) σ9 H' s' → (wipe σ (own.map (·.2))).length = σ9.length → (∀ (j : Nat) v, (wipe σ (own.map (·.2)))[j]? = some (some v) → σ9[j]? = some (some v)) → Nx H' →
        ∃ m, m < n ∧ ∃ i H', Inv (X.blk s3 H3 scope ce fp) [] (wipe σ (own.map (·.2))) H' s' ∧ tn i s'.heap ∧ (∀ b ∈ fp, H' b = none) ∧ W i m H' := fun {σ9 s' H'} I' hl hk nx => by
      obtain ⟨m', hm, w'⟩ := hNx H' nx
      refine ⟨m', hm, i + 1, H', (I'.unpinned (pins := [])).weak hl hk, T.keep _ _ _ st7 fun b hb o e => (pin_at I' b hb o e).1, fun b hb => ?_, w'⟩
      obtain ⟨o, e, _⟩ := T.obj _ _ st7 b hb
      exact (pin_at I' b hb o e).2
    have hl8 : (wipe σ (own.map (·.2))).length = σ8.length := by rw [← hw8, wipe_length]
    have hk8 : ∀ (j : Nat) v, (wipe σ (own.map (·.2)))[j]? = some (some v) → σ8[j]? = some (some v) := fun j v e => by
      rw [← hw8] at e
      exact (wipe_some e).1
    have hk9 : ∀ (j : Nat) v, (wipe σ (own.map (·.2)))[j]? = some (some v) → (wipe σ8 vs1)[j]? = some (some v) := fun j v e => by
      rw [← hw8] at e
      obtain ⟨e1, e2⟩ := wipe_some e
      rw [wipe_out fun z => e2 (hv j z)]
      exact e1
    cases b with
    | false =>
      simp only [Bool.false_eq_true, if_false] at q9 ⊢
      exact fin I9 hl8 hk8 q9
    | true =>
      simp only [if_true] at q9 ⊢
      refine thnF (pi1.run _ s9 σ8 H9 _ I9 q9) fun xv s10 hx => thnF hx fun itv s11 h11 => ?_
      obtain ⟨it1, fp1, tn1, J1, H11, e1, I11, T1, st11, f11, W1, ⟨m1, w1⟩, turn1⟩ := h11
      subst e1
      have stat1 : ∀ {H' : Hp}, (∀ b ∈ fp1, H' b = none) → ∀ b ∈ fp1, FpOk (X.blk s3 H3 scope ce fp) ([] ++ pinsAt fp s7.heap) H' b := fun hn b hb => ⟨hn b hb, (f11 b hb).2⟩
      have loop1 : codeAny (model X.prog X.w) X.A (.compLoop (.SetComp elt [⟨tg, iter, ifs, 0⟩, ⟨tg1, iter1, ifs1, 0⟩] scope pos) 1 (.ref it1) (.ref D) ce)
          (fun r s' => match r with
            | .ok _ => ∃ m, m < n ∧ ∃ i H', Inv (X.blk s3 H3 scope ce fp) [] (wipe σ (own.map (·.2))) H' s' ∧ tn i s'.heap ∧ (∀ b ∈ fp, H' b = none) ∧ W i m H'
            | .error _ => False) s11 := by
        refine setLoop_in (fun k s' => ∃ j H', Inv (X.blk s3 H3 scope ce fp) ([] ++ pinsAt fp s7.heap) (wipe σ8 vs1) H' s' ∧ tn1 j s'.heap ∧ (∀ b ∈ fp1, H' b = none) ∧ W1 j k H') ?_ m1 ⟨0, H11, I11.weak (wipe_length _ _) (fun j v e => (wipe_some e).1), st11, fun b hb => (f11 b hb).1, w1⟩
        rintro k s12 ⟨j, H12, I12, st12, n12, w12⟩
        rcases turn1 j k H12 w12 with ⟨stop1, nx1⟩ | ⟨go1, Nx1, hNx1, step1⟩
        · refine thnF (T1.done (X.blk s3 H3 scope ce fp) rfl rfl rfl hc j _ s12 (wipe σ8 vs1) H12 (fun _ _ => False) I12 (stat1 n12) st12 stop1) fun r s13 ⟨hr, I13⟩ => ?_
          subst hr
          exact fin I13 (hl8.trans (wipe_length σ8 vs1).symm) hk9 nx1
        · refine thnF (T1.item (X.blk s3 H3 scope ce fp) rfl rfl rfl hc j _ s12 (wipe σ8 vs1) H12 (fun _ _ => False) I12 (stat1 n12) st12 go1) fun r s13 ⟨u1, hr, h13⟩ => ?_
          subst hr
          refine thnF h13 fun _ s14 ⟨x1, H14, I14, r14, y14, st14, n14⟩ => ?_
          have I14' := I14.pinned (stat1 n14) (T1.obj _ _ st14)
          refine thnF (pg1.run _ s14 (wipe σ8 vs1) H14 x1 u1 _ I14' r14 (step1 x1 H14 y14)) fun _ s15 ⟨σ15, H15, I15, hw15, q15⟩ => ?_
          refine thnF (pt1.run _ s15 σ15 H15 _ I15 q15) fun b1 s16 ⟨H16, I16, q16⟩ => ?_
          have fin1 : ∀ {s' : Shared} {H' : Hp}, Inv (X.blk s3 H3 scope ce fp) (([] ++ pinsAt fp s7.heap) ++ pinsAt fp1 s14.heap) σ15 H' s' → Nx1 H' → ∃ m, m < k ∧ ∃ j H', Inv (X.blk s3 H3 scope ce fp) ([] ++ pinsAt fp s7.heap) (wipe σ8 vs1) H' s' ∧ tn1 j s'.heap ∧ (∀ b ∈ fp1, H' b = none) ∧ W1 j m H' := fun {s' H'} I' nx => by
            obtain ⟨m', hm, w'⟩ := hNx1 H' nx
            refine ⟨m', hm, j + 1, H', I'.unpinned.weak (by rw [← hw15, wipe_length]) (fun j v e => by rw [← hw15] at e; exact (wipe_some e).1), T1.keep _ _ _ st14 fun b hb o e => (pin_at I' b hb o e).1, fun b hb => ?_, w'⟩
            obtain ⟨o, e, _⟩ := T1.obj _ _ st14 b hb
            exact (pin_at I' b hb o e).2
          cases b1 with
          | false =>
            simp only [Bool.false_eq_true, if_false] at q16 ⊢
            exact fin1 I16 q16
          | true =>
            simp only [if_true] at q16 ⊢
            refine thnF (pe.run _ s16 σ15 H16 _ I16 q16) fun z s17 ⟨yv, H17, I17, r17, had⟩ => ?_
            exact kd.add (X.blk s3 H3 scope ce fp) rfl rfl rfl rfl _ s17 σ15 H17 D yv z Nx1 _ _ I17 r17 had fun s' H' I' nx => fin1 I' nx
      exact setStart_in loop1 (T1.self X.A 0 _ _ _ st11 loop1)
end
end Wc
set_option maxRecDepth 100000
set_option maxHeartbeats 4000000
/-! W10: dicts whose keys are nested tuples: in, [], []=, sorted. -/
namespace Wc
open PySem PySem.Spec PyProof.Rows L2

/-- an entry as it is told, and as it lies -/
abbrev NdR : (PyData × Addr × V) → (NestedKey × Addr × Value) → Prop := fun p q => nkey p.1 = q.1 ∧ p.2.1 = q.2.1 ∧ RelV p.2.2 q.2.2
/-- a dict's entries: the key's datum, where its tuple stands, the value -/
def NDictO (P : Program) (w : World) (d : Addr) (xs : List (PyData × Addr × V)) : HO := .ext fun h => xs.length ≤ sizeLine ∧ (d == sysModules) = false ∧ ∃ ys : List (NestedKey × Addr × Value), Paired NdR xs ys ∧
  ∃ o es ep, h.get? d = some o ∧ o.ExactDict ∧ o.data = .dict es ep ∧ es.toList = ys.map (entryOfKey (nestedKind P w)) ∧ (ys.map (·.1)).Nodup
/-- what stands under a key -/
def ndLook (xs : List (PyData × Addr × V)) (d : PyData) : Option V := (xs.find? fun x => decide (nkey x.1 = nkey d)).map (·.2.2)
/-- a value put under a key -/
def ndPut (xs : List (PyData × Addr × V)) (d : PyData) (a : Addr) (v : V) : List (PyData × Addr × V) :=
  if (ndLook xs d).isSome then xs.map (fun x => if nkey x.1 = nkey d then (x.1, x.2.1, v) else x) else xs ++ [(d, a, v)]
/-- the keys' tuples are there -/
def NdK (K : PySem.W.Frag) (H : Hp) (xs : List (PyData × Addr × V)) : Prop := ∀ x ∈ xs, Dp K H (.ref x.2.1) x.1 ∧ KeyD x.1
section
variable {P : Program} {w : World} {H : Hp} {h : Heap} {d : Addr} {xs : List (PyData × Addr × V)}
theorem ndO_ok (hl : xs.length ≤ sizeLine) (hm : (d == sysModules) = false) {ys : List (NestedKey × Addr × Value)} (r : Paired NdR xs ys) {o : Obj} {es : Array DictEntry} {ep : Nat} (ho : h.get? d = some o) (hx : o.ExactDict) (hd : o.data = .dict es ep)
    (he : es.toList = ys.map (entryOfKey (nestedKind P w))) (nd : (ys.map (·.1)).Nodup) : ObjOk P w H h d (NDictO P w d xs) := by
  refine ⟨⟨hl, hm, ys, r, o, es, ep, ho, hx, hd, he, nd⟩, ⟨o, ho⟩, ?_⟩
  rintro h1 h2 ⟨a1, a2, ys', r', o', es', ep', ho', q⟩ k
  exact ⟨a1, a2, ys', r', o', es', ep', k _ ho', q⟩
theorem nd_look : ∀ {xs : List (PyData × Addr × V)} {ys : List (NestedKey × Addr × Value)}, Paired NdR xs ys → ∀ k : PyData, match ndLook xs k with
    | some v => ∃ p, atKey ys (nkey k) = some p ∧ RelV v p.2
    | none => atKey ys (nkey k) = none
  | _, _, .nil, k => rfl
  | x :: xs, y :: ys, .cons r t, k => by
    have ih := nd_look t k
    obtain ⟨e1, _, e3⟩ := r
    unfold ndLook atKey at *
    rw [List.find?_cons, List.find?_cons, ← e1]
    by_cases c : nkey x.1 = nkey k
    · rw [decide_eq_true c]
      exact ⟨_, rfl, e3⟩
    · rw [decide_eq_false c]
      exact ih
theorem nd_put {xs : List (PyData × Addr × V)} {ys : List (NestedKey × Addr × Value)} (r : Paired NdR xs ys) (k : PyData) (a : Addr) {v : V} {u : Value} (rv : RelV v u) : Paired NdR (ndPut xs k a v) (storedH ys (nkey k) a u) := by
  have lk := nd_look r k
  unfold ndPut storedH
  cases q : ndLook xs k with
  | none =>
    rw [q] at lk
    rw [lk, if_neg (by simp), if_neg (by simp)]
    clear lk q
    induction r with
    | nil => exact .cons ⟨rfl, rfl, rv⟩ .nil
    | cons r1 _ ih => exact .cons r1 ih
  | some v0 =>
    rw [q] at lk
    obtain ⟨p, e, _⟩ := lk
    rw [e, if_pos (show (some v0).isSome = true from rfl), if_pos (show (some p).isSome = true from rfl)]
    clear e q
    induction r with
    | nil => exact .nil
    | @cons x y _ _ r1 _ ih =>
      refine .cons ?_ ih
      unfold putAt
      rw [← r1.1]
      by_cases c : nkey x.1 = nkey k
      · rw [if_pos c]
        show NdR (if nkey x.1 = nkey k then (x.1, x.2.1, v) else x) _
        rw [if_pos c]
        exact ⟨rfl, r1.2.1, rv⟩
      · rw [if_neg c]
        show NdR (if nkey x.1 = nkey k then (x.1, x.2.1, v) else x) _
        rw [if_neg c]
        exact r1
theorem nd_vals : ∀ {xs : List (PyData × Addr × V)} {ys : List (NestedKey × Addr × Value)}, Paired NdR xs ys → Vals (xs.map fun x => V.ref x.2.1) (ys.map fun y => Value.ref y.2.1)
  | _, _, .nil => .nil
  | _, _, .cons r1 t => .cons (by show Value.ref _ = Value.ref _; rw [r1.2.1]) (nd_vals t)
theorem ndPut_len (xs : List (PyData × Addr × V)) (k : PyData) (a : Addr) (v : V) : (ndPut xs k a v).length ≤ xs.length + 1 := by
  unfold ndPut
  split
  · rw [List.length_map]
    omega
  · rw [List.length_append]
    exact Nat.le_refl _
end
section
variable {X : Cx} {pins : List (Addr × Obj)} {σ : L2.St} {H : Hp} {s : Shared} {d : Addr} {xs : List (PyData × Addr × V)}
theorem nd_keys (I : Inv X pins σ H s) (hk : NdK X.K H xs) {ys : List (NestedKey × Addr × Value)} (r : Paired NdR xs ys) : ∀ y ∈ ys, (nestedKind X.prog X.w).is s.heap y.1 y.2.1 := by
  induction r with
  | nil => intro y hy; cases hy
  | @cons x y _ _ r1 _ ih =>
    intro z hz
    rcases List.mem_cons.mp hz with e | hz
    · rw [e, ← r1.1, ← r1.2.1]
      obtain ⟨h1, h2⟩ := hk x List.mem_cons_self
      exact inv_nk I h1 h2
    · exact ih (fun q hq => hk q (List.mem_cons_of_mem _ hq)) z hz
theorem nd_at (I : Inv X pins σ H s) (hd : H d = some (NDictO X.prog X.w d xs)) (hk : NdK X.K H xs) : xs.length ≤ sizeLine ∧ (d == sysModules) = false ∧ ∃ ys, Paired NdR xs ys ∧ s.heap.DictOfH (nestedKind X.prog X.w) d ys := by
  obtain ⟨⟨a1, a2, ys, r, o, es, ep, ho, hx, hdt, he, nd⟩, _⟩ := I.hok d _ hd
  exact ⟨a1, a2, ys, r, o, es, ep, ho, hx, hdt, he, nd_keys I hk r, nd⟩
/-- k in d -/
def rInNd (P : Program) (w : World) (K : PySem.W.Frag) : R2 := fun x y H Q => ∃ (d : Addr) (xs : List (PyData × Addr × V)) (a : Addr) (k : PyData), x = .ref a ∧ y = .ref d ∧ H d = some (NDictO P w d xs) ∧ NdK K H xs ∧ Dp K H (.ref a) k ∧ KeyD k ∧ Q (.bl (ndLook xs k).isSome) H
theorem op_inNd (hu : X.A.units + 16 < cLine) : OpR X (compareOp .In) (rInNd X.prog X.w X.K) := by
  intro pins s σ H x y v u Q I rx ry h
  obtain ⟨d, xs, a, k, rfl, rfl, hd, hk, hx, kd, q⟩ := h
  cases rx
  cases ry
  obtain ⟨_, hm, ys, r, dd⟩ := nd_at I hd hk
  refine wpAny_in_heap (knd := nestedKind X.prog X.w) (k := nkey k) (by show X.A.units + 1 + 8 < cLine; omega) (inv_nk I hx kd) hm dd ⟨.bl _, H, I.tok _, rfl, ?_⟩
  have lk := nd_look r k
  cases e : ndLook xs k with
  | none =>
    rw [e] at lk q
    rw [lk]
    exact q
  | some v0 =>
    rw [e] at lk q
    obtain ⟨p, e', _⟩ := lk
    rw [e']
    exact q
/-- d[k] -/
def rGetNd (P : Program) (w : World) (K : PySem.W.Frag) : R2 := fun x y H Q => ∃ (d : Addr) (xs : List (PyData × Addr × V)) (a : Addr) (k : PyData) (v : V), x = .ref d ∧ y = .ref a ∧ H d = some (NDictO P w d xs) ∧ NdK K H xs ∧ Dp K H (.ref a) k ∧ KeyD k ∧ ndLook xs k = some v ∧ Q v H
theorem pe_ndget {o i : Expr} {td ty : TE} {pos : Pos} (hu : X.A.units + 16 < cLine) (ho : PE X o td) (hi : PE X i ty) (hs : NoSl i) : PE X (.Subscript o i pos) (tOp (rGetNd X.prog X.w X.K) td ty) := by
  refine ⟨fun pins s σ H Q I h => ?_⟩
  refine subD_of PySem.F.slot_dict_getitem.lookup hs (thn (ho.run pins s σ H _ I h) fun u s1 ⟨x, H1, I1, rx, q1⟩ => thn (hi.run pins s1 σ H1 _ I1 q1) fun iv s2 ⟨y, H2, I2, ry, d, xs, a, k, v, ex, ey, hd, hk, hx, kd, lv, q⟩ => ?_)
  subst ex ey
  obtain rfl : u = Value.ref d := rx
  obtain rfl : iv = Value.ref a := ry
  obtain ⟨_, hm, ys, r, dd⟩ := nd_at I2 hd hk
  refine ⟨dd.typeIs, ?_⟩
  have lk := nd_look r k
  rw [lv] at lk
  obtain ⟨p, e, rv⟩ := lk
  exact wpAny_getItem_heap (knd := nestedKind X.prog X.w) (k := nkey k) (by show X.A.units + 1 + 8 < cLine; omega) (inv_nk I2 hx kd) dd e ⟨v, H2, I2.tok _, rv, q⟩
/-- d[k] = v -/
def rPutNd (P : Program) (w : World) (K : PySem.W.Frag) : TSet := fun x y v H Q => ∃ (d : Addr) (xs : List (PyData × Addr × V)) (a : Addr) (k : PyData), x = .ref d ∧ y = .ref a ∧ H d = some (NDictO P w d xs) ∧ NdK K H xs ∧ Dp K H (.ref a) k ∧ KeyD k ∧ xs.length < sizeLine ∧
  Q (upd H d (NDictO P w d (ndPut xs k a v)))
theorem set_nd (hu : X.A.units + 16 < cLine) : PSet X (rPutNd X.prog X.w X.K) := by
  intro pins s σ H o i v ov iv u Q I ro ri rv h
  obtain ⟨d, xs, a, k, rfl, rfl, hd, hk, hx, kd, hl, q⟩ := h
  cases ro
  cases ri
  obtain ⟨_, hm, ys, r, dd⟩ := nd_at I hd hk
  have hyl : ys.length = xs.length := by
    have e := Paired.length r
    exact e.symm
  refine wpAny_setItem_heap (knd := nestedKind X.prog X.w) (k := nkey k) (by show X.A.units + 1 + 8 < cLine; omega) (inv_nk I hx kd) dd (fun h' dd' sb => ?_) (by rw [hyl]; omega)
  obtain ⟨o', es', ep', ho', hx', hd', he', _, nd'⟩ := dd'
  refine ⟨_, I.write (e := d) (t' := _) (by rw [hd]; trivial) (.inl rfl) (fun b w' hb hw => (sb.2 b hb).trans hw) ⟨o', ho'⟩ (ndO_ok (xs := ndPut xs k a v) ?_ hm (nd_put r k a rv) ho' hx' hd' he' nd'), q⟩
  have := ndPut_len xs k a v
  omega
/-- {} whose keys will be nested tuples -/
def tDNewN (P : Program) (w : World) : TE := fun _ H Q => ∀ d, H d = none → Q (.ref d) (upd H d (NDictO P w d []))
theorem pe_dnewN {pos : Pos} : PE X (.Dict [] [] pos) (tDNewN X.prog X.w) := ⟨fun pins s σ H Q I h => by
  have big := dk_empty (P := X.prog) (w := X.w) (H := H) s.heap I.big
  obtain ⟨_, hm, _⟩ := big
  refine wpAny_Dict_empty ⟨.ref s.heap.objs.size, _, I.laid (a := s.heap.objs.size) (o := NDictO X.prog X.w s.heap.objs.size []) (t' := s.toks) (fun _ _ q => Heap.get?_push_of_some _ q) (Nat.le_refl _) ?_, rfl, h _ (I.hok.fresh (Nat.le_refl _))⟩
  exact ndO_ok (xs := []) (Nat.zero_le _) hm .nil (Heap.get?_push_size _ rfl) ⟨rfl, rfl, rfl⟩ rfl rfl List.nodup_nil⟩
/-- sorted(d) -/
def rSortedNd (P : Program) (w : World) (K : PySem.W.Frag) : List V → Hp → VK → Prop := fun vs H Q => ∃ (d : Addr) (xs : List (PyData × Addr × V)), vs = [V.ref d] ∧ H d = some (NDictO P w d xs) ∧ NdK K H xs ∧ SortOk (xs.map (·.1)) ∧
  ∀ p, H p = none → Q (.ref p) (upd H p (.lst ((srt (xs.map fun x => (V.ref x.2.1, x.1))).map (·.1))))
theorem cr_sortedNd (hc : X.calm = true) (hu : X.A.units + 70 < cLine) : CallR X (.builtin "sorted") (rSortedNd X.prog X.w X.K) := by
  intro pins s σ H vs us Q I r h
  obtain ⟨d, xs, rfl, hd, hk, ok, q⟩ := h
  rw [Vals.ref1 r]
  obtain ⟨⟨a1, hm, ys, rr, o, es, ep, ho, hx, hdt, he, nd⟩, _⟩ := I.hok d _ hd
  have hyl : ys.length = xs.length := (Paired.length rr).symm
  have hes : es.size = xs.length := by rw [← hyl, ← Array.length_toList, he, List.length_map]
  refine sorted_run (H := H) hu fun Q2 hQ2 => ?_
  refine PySem.W.kdu_collect (A := X.A.in1) (kdl_raw hm hx hdt) (I.ok.hd hc) ho (by rw [hes]; exact a1) fun h' tk acc hkk hacc => ?_
  have hlen : acc.toList.length = xs.length := by rw [Array.length_toList, hacc.1, hes]
  have hval : Vals (xs.map fun x => V.ref x.2.1) acc.toList := by
    have e : acc.toList = ys.map fun y => Value.ref y.2.1 := by
      apply List.ext_getElem
      · rw [hlen, List.length_map, hyl]
      · intro i h1 h2
        have hi : i < acc.size := by rw [← Array.length_toList]; exact h1
        obtain ⟨en, e1, e2⟩ := hacc.2 i _ (Array.getElem?_eq_getElem hi)
        rw [Array.getElem_toList, e2]
        have e3 : es.toList[i]? = some en := by rw [Array.getElem?_toList]; exact e1
        rw [he, List.getElem?_map] at e3
        rw [List.length_map] at h2
        rw [List.getElem?_eq_getElem h2] at e3
        rw [List.getElem_map]
        have e4 := Option.some.inj e3
        rw [← e4]
        rfl
    rw [e]
    exact nd_vals rr
  refine hQ2 _ acc.toList (xs.map fun x => (V.ref x.2.1, x.1)) (I.kept hkk) ?_ (by rw [hlen]; exact a1) (fun p hp => ?_) ?_ fun p hp => q p hp
  · rw [List.map_map]
    exact hval
  · obtain ⟨x, hx', rfl⟩ := List.mem_map.mp hp
    exact (hk x hx').1
  · rw [List.map_map]
    exact ok
end
end Wc
set_option maxRecDepth 100000
set_option maxHeartbeats 4000000
/-! W11: min of a list or a tuple, by key= or with default=, of alike data. -/
namespace Wc
open PySem PySem.Spec PyProof.Rows L2
open PySem.W (dataLt alike)

/-- a key's call: it answers what reads as kf i -/
def KeyR (X : Cx) (pl : List (Addr × Obj)) (σ : L2.St) (A : Around) (q : Value) (H : Hp) (xs : List V) (kf : Nat → PyData) : Prop :=
  ∀ (pins : List (Addr × Obj)) (_ : ∀ p ∈ pl, p ∈ pins) (s : Shared) (H' : Hp) (i : Nat) (x : V) (v : Value) (Q : Value → Shared → Prop), Inv X pins σ H' s → Same H H' → xs[i]? = some x → RelV x v →
    (∀ y H2 s2 u, Inv X pins σ H2 s2 → Same H' H2 → Dp X.K H2 y (kf i) → RelV y u → Q u s2) → wpAny (model X.prog X.w) A (call q [v]) Q (fun _ _ => False) s
/-- what min asks of its key: none, or a call -/
def KeyM (X : Cx) (pl : List (Addr × Obj)) (σ : L2.St) (key : Value) (H : Hp) (xs : List V) (kf : Nat → PyData) : Prop :=
  (key = .none ∧ ∀ i x, xs[i]? = some x → Dp X.K H x (kf i)) ∨ (∃ q, key = .ref q) ∧ KeyR X pl σ X.A.in1 key H xs kf
/-- a walk's steps, at the iterator It -/
structure Walk1 (X : Cx) (xs : List V) (H : Hp) (It : Addr) (tn : Nat → Heap → Prop) : Prop where
  nx : ∀ (i : Nat) (pins : List (Addr × Obj)) (s : Shared) (σ : L2.St) (H' : Hp) (Q : Option Value → Shared → Prop) (E : Value → Shared → Prop), Inv X pins σ H' s → Same H H' → tn i s.heap → i < xs.length →
    (∀ v x h' tk, xs[i]? = some x → RelV x v → tn (i + 1) h' → (∀ b o, b ≠ It → s.heap.get? b = some o → h'.get? b = some o) → Q (some v) { s with heap := h', toks := tk }) → wpAny (model X.prog X.w) X.A.in1 (pyNext (.ref It)) Q E s
  dn : ∀ (pins : List (Addr × Obj)) (s : Shared) (σ : L2.St) (H' : Hp) (Q : Option Value → Shared → Prop) (E : Value → Shared → Prop), Inv X pins σ H' s → Same H H' → tn xs.length s.heap →
    (∀ h' tk, (∀ b o, b ≠ It → s.heap.get? b = some o → h'.get? b = some o) → Q none { s with heap := h', toks := tk }) → wpAny (model X.prog X.w) X.A.in1 (pyNext (.ref It)) Q E s
  kp : ∀ i h h', tn i h → (∀ o, h.get? It = some o → h'.get? It = some o) → tn i h'
  ob : ∀ i h, tn i h → ∃ o, h.get? It = some o ∧ ∀ v, o.data ≠ .cell v
section
variable {X : Cx} {xs : List V} {H : Hp} {a It : Addr}
theorem walk1_list (hc : X.calm = true) (hne : a ≠ It) (h : SqL X.K H a xs) : Walk1 X xs H It (fun i hp => hp.IsListIter It a i) where
  nx := fun i pins s σ H' Q E I e st hi hQ => by
    obtain ⟨its, rv, pl, hz⟩ := I.list (Same.seq e h)
    have hl := rv.length
    have W := Walks.list (prog := X.prog) (w := X.w) (A := X.A.in1) (I.ok.hd hc) It a hne its.toArray
    refine W.item i s Q E (by simpa using by omega) ⟨st, pl.isList⟩ fun v h' tk hP st' hk => ?_
    obtain ⟨x, hx⟩ : ∃ x, xs[i]? = some x := ⟨_, List.getElem?_eq_getElem hi⟩
    obtain ⟨u, hu, r⟩ := Vals.get rv hx
    have hv : its[i]? = some v := by simpa using hP
    obtain rfl : u = v := Option.some.inj (hu.symm.trans hv)
    exact hQ u x h' tk hx r st'.1 fun b o hb e => hk b o (by simpa using hb) e
  dn := fun pins s σ H' Q E I e st hQ => by
    obtain ⟨its, rv, pl, hz⟩ := I.list (Same.seq e h)
    have hl := rv.length
    have W := Walks.list (prog := X.prog) (w := X.w) (A := X.A.in1) (I.ok.hd hc) It a hne its.toArray
    refine W.done s Q E ⟨by simpa [hl] using st, pl.isList⟩ fun h' tk hk => hQ h' tk fun b o hb e => hk b o (by simpa using hb) e
  kp := fun i h h' st hk => st.at hk
  ob := fun i h st => by
    obtain ⟨o, ho, _, hd⟩ := st
    exact ⟨o, ho, fun v z => by rw [hd] at z; cases z⟩
theorem walk1_tup (hc : X.calm = true) (hne : a ≠ It) (h : SqT X.K H a xs) : Walk1 X xs H It (fun i hp => hp.IsTupleIter It a i) where
  nx := fun i pins s σ H' Q E I e st hi hQ => by
    obtain ⟨its, rv, pl, hz⟩ := I.tuple (seqT e h)
    have hl := rv.length
    have W := Walks.tuple (prog := X.prog) (w := X.w) (A := X.A.in1) (I.ok.hd hc) It a hne its.toArray
    refine W.item i s Q E (by simpa using by omega) ⟨st, pl⟩ fun v h' tk hP st' hk => ?_
    obtain ⟨x, hx⟩ : ∃ x, xs[i]? = some x := ⟨_, List.getElem?_eq_getElem hi⟩
    obtain ⟨u, hu, r⟩ := Vals.get rv hx
    have hv : its[i]? = some v := by simpa using hP
    obtain rfl : u = v := Option.some.inj (hu.symm.trans hv)
    exact hQ u x h' tk hx r st'.1 fun b o hb e => hk b o (by simpa using hb) e
  dn := fun pins s σ H' Q E I e st hQ => by
    obtain ⟨its, rv, pl, hz⟩ := I.tuple (seqT e h)
    have hl := rv.length
    have W := Walks.tuple (prog := X.prog) (w := X.w) (A := X.A.in1) (I.ok.hd hc) It a hne its.toArray
    refine W.done s Q E ⟨by simpa [hl] using st, pl⟩ fun h' tk hk => hQ h' tk fun b o hb e => hk b o (by simpa using hb) e
  kp := fun i h h' st hk => st.at hk
  ob := fun i h st => by
    obtain ⟨o, ho, _, hd⟩ := st
    exact ⟨o, ho, fun v z => by rw [hd] at z; cases z⟩
end
/-! ### the loop -/
section
variable {X : Cx} {pins : List (Addr × Obj)} {σ : L2.St} {H : Hp} {s : Shared}
/-- a known place of pins -/
theorem pinIn {pl : List (Addr × Obj)} (I : Inv X (pins ++ pl) σ H s) {p : Addr × Obj} (hp : p ∈ pl) : s.heap.get? p.1 = some p.2 ∧ H p.1 = none := by
  obtain ⟨a, b, _⟩ := I.pin p (List.mem_append_right _ (List.mem_append_right _ hp))
  exact ⟨a, b⟩
theorem inv_turned1 {It : Addr} {h' : Heap} {t' : Nat} (I : Inv X pins σ H s) (k : ∀ b o, b ≠ It → s.heap.get? b = some o → h'.get? b = some o) (f : FpOk X pins H It) : Inv X pins σ H { s with heap := h', toks := t' } := by
  obtain ⟨f0, f1, f2, f3, f4, f5⟩ := f
  exact I.turned k f0 f1 f3 f4 f5
end
section
variable {X : Cx} {pl pins : List (Addr × Obj)} {σ : L2.St} {H : Hp} {xs : List V} {It S : Addr} {tn : Nat → Heap → Prop} {kf : Nat → PyData} {key : Value} {kw : List (Str × Value)} {R : Result → Shared → Prop}
/-- the state ahead of turn j: the best item i, its key -/
structure MinSt (X : Cx) (pins : List (Addr × Obj)) (σ : L2.St) (H : Hp) (xs : List V) (It S : Addr) (tn : Nat → Heap → Prop) (kf : Nat → PyData) (j i : Nat) (H' : Hp) (s : Shared) : Prop where
  inv : Inv X pins σ H' s
  same : Same H H'
  tn : tn j s.heap
  nI : H' It = none
  nS : H' S = none
  best : ∃ (vb kb : Value) (xb yb : V) (c : Nat), s.heap.get? S = some (seqObj "list" #[vb, kb] c) ∧ xs[i]? = some xb ∧ RelV xb vb ∧ RelV yb kb ∧ Dp X.K H' yb (kf i)
  lt : i < j
  min : ∀ j', j' < j → dataLt (kf j') (kf i) = false
theorem dataLt_trans {a b c : PyData} (h1 : dataLt a b = true) (h2 : dataLt b c = true) : dataLt a c = true := lex_trans _ _ _ h1 h2
/-- what is asked of the keys -/
def KeysOk (n : Nat) (kf : Nat → PyData) : Prop := ∀ i j, i < n → j < n → alike (kf i) (kf j) = true ∧ kf i ≠ .none ∧ (kf i).depth ≤ 64
section
variable {s : Shared}
/-- the value's key -/
theorem key_step {hd : Value → Sem Value} {jp : Value → Sem PySem.Fin} {item : Value} {x : V} {i : Nat} {H' : Hp} {E : Value → Shared → Prop} {Q : PySem.Fin → Shared → Prop} (hpl : ∀ p ∈ pl, p ∈ pins) (hk : KeyM X pl σ key H xs kf) (I : Inv X pins σ H' s) (e : Same H H') (hx : xs[i]? = some x) (r : RelV x item)
    (h : ∀ y H2 s2 u, Inv X pins σ H2 s2 → Same H' H2 → Dp X.K H2 y (kf i) → RelV y u → wpAny (model X.prog X.w) X.A.in1 (jp u) Q E s2) :
    wpAny (model X.prog X.w) X.A.in1 (match key with
      | .none => pure item >>= jp
      | _ => (tryCatch (holding [item] (call key [item])) hd) >>= jp) Q E s := by
  rcases hk with ⟨rfl, hd⟩ | ⟨⟨q, rfl⟩, hc⟩
  · exact wpAny_bind (wpAny_pure (h x H' s item I (Same.refl H') (dpSame e _ _ (hd i x hx)) r))
  · exact wpAny_bind (wpAny_tryCatch (wpAny_holding (wpAny_mono (hc pins hpl s H' i x item _ I e hx r h) (fun _ _ q => q) fun _ _ z => z.elim)))
end
/-- one turn, then the next -/
theorem min_loop (hu : X.A.units + 70 < cLine) (W : Walk1 X xs H It tn) (hSI : S ≠ It) (fI : ∀ H' : Hp, H' It = none → FpOk X pins H' It) (fS : ∀ H' : Hp, H' S = none → FpOk X pins H' S)
    (al : KeysOk xs.length kf) (hpl : ∀ p ∈ pl, p ∈ pins) (hk : KeyM X pl σ key H xs kf)
    (hR : ∀ i x v H' s', xs[i]? = some x → RelV x v → (∀ j, j < xs.length → dataLt (kf j) (kf i) = false) → Inv X pins σ H' s' → Same H H' → R (.ok (.ret v)) s') :
    ∀ (r j i : Nat) (H' : Hp) (s : Shared), xs.length - j = r → j ≤ xs.length → MinSt X pins σ H xs It S tn kf j i H' s → codeAny (model X.prog X.w) X.A (.builtin "min.loop" ⟨[.ref It, key, .ref S], kw⟩) R s := by
  have hname : (toString "min" ++ toString ".loop" : String) = "min.loop" := by decide
  intro r
  induction r with
  | zero =>
    rintro j i H' s hr hj ⟨I, e, st, nI, nS, ⟨vb, kb, xb, yb, c, hS, hxb, rb, ryb, db⟩, hij, hmin⟩
    have hin : j = xs.length := by omega
    subst hin
    refine codeAny_builtin PySem.F.entry_min_loop ?_
    rw [Around.under_plainId PySem.F.plain_min_loop _]
    show wpAny _ X.A.in1 (seqItems? (.ref S) >>= _) _ _ _
    refine wpAny_bind (wpAny_seqItems hS rfl ?_)
    show wpAny _ X.A.in1 (tryCatch (pyNext (.ref It)) _ >>= _) _ _ _
    refine wpAny_bind (wpAny_tryCatch (W.dn pins s σ H' _ _ I e st fun h' tk' hk' => ?_))
    have I1 : Inv X pins σ H' { s with heap := h', toks := tk' } := inv_turned1 I hk' (fI _ nI)
    show wpAny _ X.A.in1 (updateSeq S (fun _ => #[]) >>= _) _ _ _
    refine wpAny_bind ?_
    refine wpAny_updateSeq (hk' S _ hSI hS) rfl (wpAny_bind (wpAny_letGo (wpAny_pure ?_)))
    refine hR i xb vb H' _ hxb rb hmin (inv_turned1 I1 (t' := tk') (h' := h'.update S (Obj.mapSeq fun _ => #[])) (fun b o hb q => (Heap.get?_update_ne _ _ _ _ hb).trans q) (fS _ nS)) e
  | succ r ih =>
    rintro j i H' s hr hj ⟨I, e, st, nI, nS, ⟨vb, kb, xb, yb, c, hS, hxb, rb, ryb, db⟩, hij, hmin⟩
    have hlt : j < xs.length := by omega
    refine codeAny_builtin PySem.F.entry_min_loop ?_
    rw [Around.under_plainId PySem.F.plain_min_loop _]
    show wpAny _ X.A.in1 (seqItems? (.ref S) >>= _) _ _ _
    refine wpAny_bind (wpAny_seqItems hS rfl ?_)
    show wpAny _ X.A.in1 (tryCatch (pyNext (.ref It)) _ >>= _) _ _ _
    refine wpAny_bind (wpAny_tryCatch (W.nx j pins s σ H' _ _ I e st hlt fun v x h1 tk1 hx rv st1 hk1 => ?_))
    have I1 : Inv X pins σ H' { s with heap := h1, toks := tk1 } := inv_turned1 I hk1 (fI _ nI)
    have hS1 := hk1 S _ hSI hS
    have obs : ∀ b ∈ [It, S], ∃ o, h1.get? b = some o ∧ ∀ v, o.data ≠ .cell v := fun b hb => by
      rcases List.mem_cons.mp hb with rfl | hb
      · exact W.ob _ _ st1
      · obtain rfl : b = S := by simpa using hb
        exact ⟨_, hS1, fun v z => by cases z⟩
    have I1' := I1.pinned (fp := [It, S]) (fun b hb => by
      rcases List.mem_cons.mp hb with rfl | hb
      · exact fI _ nI
      · obtain rfl : b = S := by simpa using hb
        exact fS _ nS) obs
    refine key_step (fun p hp => List.mem_append_left _ (hpl p hp)) hk I1' e hx rv fun y H2 s2 u I2' e2 dy ry => ?_
    have I2 := I2'.unpinned
    obtain ⟨hS2, nS2⟩ := pinIn I2' (p := (S, seqObj "list" #[vb, kb] c)) (mem_pinsAt (by simp) hS1)
    obtain ⟨oI, hoI, _⟩ := W.ob _ _ st1
    obtain ⟨hI2, nI2⟩ := pinIn I2' (p := (It, oI)) (mem_pinsAt (by simp) hoI)
    have st2 : tn (j + 1) s2.heap := W.kp _ _ _ st1 fun o q => by
      rw [hoI] at q
      cases q
      exact hI2
    have e02 := e.trans e2
    obtain ⟨a1, a2, a3⟩ := al j i hlt (by omega)
    obtain ⟨as, r1⟩ := Dp.reads I2 (kf j) y u dy ry
    have db2 := dpSame e2 _ _ db
    obtain ⟨bs, r2⟩ := Dp.reads I2 (kf i) yb kb db2 ryb
    show wpAny _ X.A.in1 (tryCatch (holding [v, u] (richCompare .Lt u kb >>= _)) _ >>= _) _ _ _
    refine wpAny_bind (wpAny_tryCatch (wpAny_holding (wpAny_bind (PySem.W.rcLt_alike (kf j) (kf i) X.A.in1 s2 u kb as bs r1 r2 a1 a2 (by
      have := Nat.min_le_left (kf j).depth (kf i).depth
      show X.A.units + 1 + _ < cLine
      omega) X.prog X.w _ _ ?_))))
    refine wpAny_bind (wpAny_holding (wpAny_truthy_bool ?_))
    refine wpAny_bind (wpAny_letGo (wpAny_pure ?_))
    cases hb : dataLt (kf j) (kf i) with
    | true =>
      simp only [if_true]
      refine wpAny_bind ?_
      refine wpAny_updateSeq hS2 rfl (wpAny_bind (wpAny_letGo ?_))
      rw [hname]
      obtain ⟨c2, hc2⟩ : ∃ c2, (s2.heap.update S (Obj.mapSeq fun _ => #[v, u])).get? S = some (seqObj "list" #[v, u] c2) := ⟨_, get?_update_seq hS2 fun _ => #[v, u]⟩
      refine wpAny_pure ⟨plainId_quiet PySem.F.plain_min_loop _, ih (j + 1) j H2 _ (by omega) hlt ⟨inv_turned1 I2 (t' := s2.toks) (h' := s2.heap.update S (Obj.mapSeq fun _ => #[v, u])) (fun b o hb q => (Heap.get?_update_ne _ _ _ _ hb).trans q) (fS _ nS2), e02, ?_, nI2, nS2, ⟨v, u, x, y, c2, hc2, hx, rv, ry, dy⟩, Nat.lt_succ_self _, fun j' hj' => ?_⟩⟩
      · exact W.kp _ _ _ st2 fun o q => (Heap.get?_update_ne _ _ _ _ (Ne.symm hSI)).trans q
      · rcases Nat.lt_succ_iff_lt_or_eq.mp hj' with h | h
        · cases q : dataLt (kf j') (kf j) with
          | false => rfl
          | true => rw [← hmin j' h, dataLt_trans q hb]
        · subst h
          exact lex_irrefl _
    | false =>
      simp only [Bool.false_eq_true, if_false]
      refine wpAny_bind (wpAny_letGo ?_)
      rw [hname]
      refine wpAny_pure ⟨plainId_quiet PySem.F.plain_min_loop _, ih (j + 1) i H2 _ (by omega) hlt ⟨I2, e02, st2, nI2, nS2, ⟨vb, kb, xb, yb, c, hS2, hxb, rb, ryb, db2⟩, by omega, fun j' hj' => ?_⟩⟩
      rcases Nat.lt_succ_iff_lt_or_eq.mp hj' with h | h
      · exact hmin j' h
      · subst h
        exact hb
/-- min, begun: the walk is made, then the loop -/
theorem min_run {s : Shared} {a : Addr} {dflt : Option Value} {E Qv : Value → Shared → Prop} (hc : X.calm = true) (hu : X.A.units + 70 < cLine) (I : Inv X pins σ H s) (ha : SqL X.K H a xs ∨ SqT X.K H a xs) (hkw : argsOk "min" ⟨[.ref a], kw⟩)
    (hb : Builtin.Builtins.bindParams "min" ["key", "default"] 0 ⟨[], kw⟩ = pure [if key = .none then none else some key, dflt])
    (al : KeysOk xs.length kf) (hpl : ∀ p ∈ pl, p ∈ pins) (hk : KeyM X pl σ key H xs kf)
    (hR : ∀ i x v H' s', xs[i]? = some x → RelV x v → (∀ j, j < xs.length → dataLt (kf j) (kf i) = false) → Inv X pins σ H' s' → Same H H' → Qv v s')
    (h0 : xs = [] → ∃ d, dflt = some d ∧ ∀ s', Inv X pins σ H s' → Qv d s') :
    wpAny (model X.prog X.w) X.A (call (.builtin "min") [.ref a] kw) Qv E s := by
  have hname : (toString "min" ++ toString ".loop" : String) = "min.loop" := by decide
  refine kmk_tree PySem.F.kind_min PySem.F.plain_min PySem.F.entry_min hkw ?_
  show wpAny _ X.A.in1 (Builtin.Builtins.bindParams "min" ["key", "default"] 0 ⟨[], kw⟩ >>= _) _ _ s
  rw [hb]
  refine wpAny_bind (wpAny_pure ?_)
  refine wpAny_bind (wpAny_pure ?_)
  have hkey : (if key = .none then none else some key : Option Value).getD .none = key := by
    split
    · rename_i h
      rw [h]
      rfl
    · rfl
  rw [hkey]
  have body : ∀ (It : Addr) (oI : Obj) (tn : Nat → Heap → Prop), It = s.heap.objs.size → oI.isFreed = false → (∀ v, oI.data ≠ .cell v) → Walk1 X xs H It tn → tn 0 (s.heap.push oI) → (∀ h, (∀ b o, (s.heap.push oI).get? b = some o → h.get? b = some o) → tn 0 h) →
      wpAny (model X.prog X.w) X.A.in1 (newList [] >>= fun l => again (.builtin (toString "min" ++ toString ".loop") ⟨[.ref It, key, l], dflt.toList.map fun d => ("default", d)⟩))
        (fun fin s' => match fin with
          | .done f => (match (Except.ok f : Result) with | .ok (.ret v) => Qv v s' | .ok _ => False | .error e => E e s')
          | .again c' => c'.quiet = true ∧ codeAny (model X.prog X.w) X.A c' (fun r s' => match r with | .ok (.ret v) => Qv v s' | .ok _ => False | .error e => E e s') s') E { s with heap := s.heap.push oI } := by
    rintro It oI tn rfl hfr hoc W t0 tk
    refine wpAny_bind (wpAny_newList ?_ (Nat.zero_le _))
    rw [hname]
    have hS : (s.heap.push oI).objs.size = s.heap.objs.size + 1 := size_push' ..
    have hSI : (s.heap.push oI).objs.size ≠ s.heap.objs.size := by rw [hS]; exact Nat.ne_of_gt (Nat.lt_succ_self _)
    have fI : ∀ H' : Hp, H' s.heap.objs.size = none → FpOk X pins H' s.heap.objs.size := fun H' n => I.fpOk (Nat.le_refl _) n
    have fS : ∀ H' : Hp, H' (s.heap.push oI).objs.size = none → FpOk X pins H' (s.heap.push oI).objs.size := fun H' n => I.fpOk (by rw [hS]; exact Nat.le_succ _) n
    have kp : ∀ b o, s.heap.get? b = some o → ((s.heap.push oI).push (seqObj "list" #[] 0)).get? b = some o := fun b o q => Heap.get?_push_of_some _ (Heap.get?_push_of_some _ q)
    have I1 : Inv X pins σ H { s with heap := (s.heap.push oI).push (seqObj "list" #[] 0) } := I.kept (t' := s.toks) kp
    have gS : ((s.heap.push oI).push (seqObj "list" #[] 0)).get? (s.heap.push oI).objs.size = some (seqObj "list" #[] 0) := Heap.get?_push_size _ rfl
    have gI : ((s.heap.push oI).push (seqObj "list" #[] 0)).get? s.heap.objs.size = some oI := Heap.get?_push_of_some _ (Heap.get?_push_size _ hfr)
    have nI : H s.heap.objs.size = none := I.hok.fresh (Nat.le_refl _)
    have nS : H (s.heap.push oI).objs.size = none := I.hok.fresh (by rw [hS]; exact Nat.le_succ _)
    have st : tn 0 ((s.heap.push oI).push (seqObj "list" #[] 0)) := tk _ fun b o q => Heap.get?_push_of_some _ q
    refine wpAny_pure ⟨plainId_quiet PySem.F.plain_min_loop _, ?_⟩
    refine codeAny_builtin PySem.F.entry_min_loop ?_
    rw [Around.under_plainId PySem.F.plain_min_loop _]
    show wpAny _ X.A.in1 (seqItems? (.ref _) >>= _) _ _ _
    refine wpAny_bind (wpAny_seqItems gS rfl ?_)
    show wpAny _ X.A.in1 (tryCatch (pyNext (.ref s.heap.objs.size)) _ >>= _) _ _ _
    by_cases hne : xs = []
    · obtain ⟨d, rfl, q⟩ := h0 hne
      subst hne
      refine wpAny_bind (wpAny_tryCatch (W.dn pins _ σ H _ _ I1 (Same.refl H) st fun h' tk' hk' => ?_))
      show wpAny _ X.A.in1 (rule _ >>= _) _ _ _
      have I2 : Inv X pins σ H { s with heap := h', toks := tk' } := inv_turned1 (s := { s with heap := (s.heap.push oI).push (seqObj "list" #[] 0) }) I1 hk' (fI _ nI)
      exact wpAny_bind (wpAny_rule (wpAny_pure (q _ I2)))
    · have hlt : 0 < xs.length := List.length_pos_iff.mpr hne
      refine wpAny_bind (wpAny_tryCatch (W.nx 0 pins _ σ H _ _ I1 (Same.refl H) st hlt fun v x h1 tk1 hx rv st1 hk1 => ?_))
      have I2 : Inv X pins σ H { s with heap := h1, toks := tk1 } := inv_turned1 (s := { s with heap := (s.heap.push oI).push (seqObj "list" #[] 0) }) I1 hk1 (fI _ nI)
      have hS1 := hk1 _ _ hSI gS
      have obs : ∀ b ∈ [s.heap.objs.size, (s.heap.push oI).objs.size], ∃ o, h1.get? b = some o ∧ ∀ v, o.data ≠ .cell v := fun b hb => by
        rcases List.mem_cons.mp hb with rfl | hb
        · exact W.ob _ _ st1
        · obtain rfl : b = (s.heap.push oI).objs.size := by simpa using hb
          exact ⟨_, hS1, fun v z => by cases z⟩
      have I2' := I2.pinned (fp := [s.heap.objs.size, (s.heap.push oI).objs.size]) (fun b hb => by
        rcases List.mem_cons.mp hb with rfl | hb
        · exact fI _ nI
        · obtain rfl : b = (s.heap.push oI).objs.size := by simpa using hb
          exact fS _ nS) obs
      refine key_step (fun p hp => List.mem_append_left _ (hpl p hp)) hk I2' (Same.refl H) hx rv fun y H2 s2 u I3' e2 dy ry => ?_
      have I3 := I3'.unpinned
      obtain ⟨hS2, nS2⟩ := pinIn I3' (p := ((s.heap.push oI).objs.size, seqObj "list" #[] 0)) (mem_pinsAt (by simp) hS1)
      obtain ⟨oJ, hoJ, _⟩ := W.ob _ _ st1
      obtain ⟨hI2, nI2⟩ := pinIn I3' (p := (s.heap.objs.size, oJ)) (mem_pinsAt (by simp) hoJ)
      have st2 : tn 1 s2.heap := W.kp _ _ _ st1 fun o q => by
        rw [hoJ] at q
        cases q
        exact hI2
      refine wpAny_bind ?_
      refine wpAny_updateSeq hS2 rfl ?_
      rw [hname]
      obtain ⟨c2, hc2⟩ : ∃ c2, (s2.heap.update (s.heap.push oI).objs.size (Obj.mapSeq fun _ => #[v, u])).get? (s.heap.push oI).objs.size = some (seqObj "list" #[v, u] c2) := ⟨_, get?_update_seq hS2 fun _ => #[v, u]⟩
      refine wpAny_pure ⟨plainId_quiet PySem.F.plain_min_loop _, min_loop hu W hSI fI fS al hpl hk hR _ 1 0 H2 _ rfl hlt ⟨inv_turned1 I3 (t' := s2.toks) (h' := s2.heap.update _ (Obj.mapSeq fun _ => #[v, u])) (fun b o hb q => (Heap.get?_update_ne _ _ _ _ hb).trans q) (fS _ nS2), e2, ?_, nI2, nS2, ⟨v, u, x, y, c2, hc2, hx, rv, ry, dy⟩, Nat.lt_succ_self _, fun j' hj' => ?_⟩⟩
      · exact W.kp _ _ _ st2 fun o q => (Heap.get?_update_ne _ _ _ _ (Ne.symm hSI)).trans q
      · obtain rfl : j' = 0 := by omega
        exact lex_irrefl _
  have hna : ∀ o, s.heap.get? a = some o → a ≠ s.heap.objs.size := fun o e => Nat.ne_of_lt (Heap.lt_size e)
  rcases ha with h | h
  · obtain ⟨its, rv, pl, hz⟩ := I.list h
    refine wpAny_bind (wpAny_pyIter_list pl.isList ?_)
    obtain ⟨oa, hoa, _⟩ := id pl.isList
    refine body s.heap.objs.size { cls := .type "list_iterator", data := .fields #[.ref a, .int 0 0] } (fun i hp => hp.IsListIter s.heap.objs.size a i) rfl rfl (fun v z => by cases z) (walk1_list hc (hna _ hoa) h) ⟨_, Heap.get?_push_size _ rfl, rfl, rfl⟩ fun h hh => ⟨_, hh _ _ (Heap.get?_push_size _ rfl), rfl, rfl⟩
  · obtain ⟨its, rv, pl, hz⟩ := I.tuple h
    refine wpAny_bind (wpAny_pyIter_tuple pl ?_)
    obtain ⟨oa, hoa, _⟩ := id pl
    refine body s.heap.objs.size { cls := .type "tuple_iterator", data := .fields #[.ref a, .int 0 0] } (fun i hp => hp.IsTupleIter s.heap.objs.size a i) rfl rfl (fun v z => by cases z) (walk1_tup hc (hna _ hoa) h) ⟨_, Heap.get?_push_size _ rfl, rfl, rfl⟩ fun h hh => ⟨_, hh _ _ (Heap.get?_push_size _ rfl), rfl, rfl⟩
end
section
variable {X : Cx}
/-- min(x, default=d) -/
def rMinDef (K : PySem.W.Frag) : List V → List V → Hp → VK → Prop := fun vs zs H Q => ∃ (a : Addr) (d : V) (xs : List V) (kf : Nat → PyData), vs = [V.ref a] ∧ zs = [d] ∧ (SqL K H a xs ∨ SqT K H a xs) ∧ KeysOk xs.length kf ∧ (∀ i x, xs[i]? = some x → Dp K H x (kf i)) ∧
  (xs = [] → Q d H) ∧ ∀ i x, xs[i]? = some x → (∀ j, j < xs.length → dataLt (kf j) (kf i) = false) → ∀ H', Same H H' → Q x H'
theorem min_args_def (a v : Value) : argsOk "min" ⟨[a], [(Str.ofString "default", v)]⟩ := by unfold argsOk; kernel_rfl
theorem cr_minDef (hc : X.calm = true) (hu : X.A.units + 70 < cLine) : CallRK X (.builtin "min") [Str.ofString "default"] (rMinDef X.K) := by
  intro pins s σ H xs zs us ws Q I r rz h
  obtain ⟨a, d, xs', kf, rfl, rfl, ha, al, hd, q0, q1⟩ := h
  rw [Vals.ref1 r]
  cases rz with
  | cons rd rr =>
    cases rr
    refine min_run (key := .none) (kf := kf) hc hu I ha (min_args_def _ _) rfl al (pl := []) (fun p hp => nomatch hp) (.inl ⟨rfl, hd⟩) (fun i x v H' s' hx rv hm I' e => ⟨x, H', I', rv, q1 i x hx hm H' e⟩) fun e0 => ⟨_, rfl, fun s' I' => ⟨d, H, I', rd, q0 e0⟩⟩
end
end Wc
set_option maxRecDepth 100000
set_option maxHeartbeats 4000000
/-! W12: sorted(list, key=f), f a def of the module. -/
namespace Wc
open PySem PySem.Spec PyProof.Rows L2
open PySem.W (dataLt alike EachIs)

section
variable {X : Cx} {pins : List (Addr × Obj)} {σ : L2.St} {H : Hp} {s : Shared} {a : Addr} {o : HO}
/-- an untracked object of ours is tracked from now on -/
theorem inv_adopt (I : Inv X pins σ H s) (f : FpOk X pins H a) (new : ObjOk X.prog X.w (upd H a o) s.heap a o) : Inv X pins σ (upd H a o) s := by
  obtain ⟨f0, f1, f2, f3, f4, f5⟩ := f
  have na : ∀ b u, H b = some u → b ≠ a := fun b u e z => by rw [z, f0] at e; cases e
  refine I.step (h' := s.heap) (g' := s.gens) (d' := s.drawn) (t' := s.toks) (ch := [a]) (fun b hb => ?_) (fun b o _ _ _ e _ => e) (fun b o _ _ _ e _ => ⟨o.slots, e⟩) (fun b o hb _ n => ?_) (fun b o _ e => ⟨o, e⟩)
    (fun b xs e => by rw [upd_ne (na b _ e)]; exact e) (fun b o u e => by rw [upd_ne (na b _ e)]; exact e) (fun b ps e => ⟨#[], by rw [upd_ne (na b _ e), e]; simp⟩) (fun m hm => hm) (fun b u e => ?_) I.bare
  · obtain rfl : b = a := by simpa using hb
    exact ⟨f3, f1, f4, f5⟩
  · rw [upd_ne (by simpa using hb)]
    exact n
  · by_cases hb : b = a
    · subst hb
      rw [upd_same] at e
      cases e
      exact new
    · rw [upd_ne hb] at e
      exact (I.hok b u e).stay (fun c v _ q => q) (fun c q => by rw [upd_ne (na c _ q)]; exact q) fun c xs q => by rw [upd_ne (na c _ q)]; exact q
end
/-- sorted(l, key=f): ps: the items, each with what its key reads as -/
def rSortedKey (K : PySem.W.Frag) (f : Addr) (sp : Sp) : List V → List V → Hp → VK → Prop := fun vs zs H Q => ∃ (l : Addr) (ps : List (V × PyData)), vs = [V.ref l] ∧ zs = [V.ref f] ∧ SqL K H l (ps.map (·.1)) ∧ SortOk (ps.map (·.2)) ∧
  (∀ p ∈ ps, ∀ (H' : Hp) (Q' : VK), Same H H' → (∀ y H2, Same H' H2 → Dp K H2 y p.2 → Q' y H2) → ∀ E, sp [p.1] H' Q' E) ∧
  ∀ (H' : Hp) (p : Addr), Same H H' → H' p = none → Q (.ref p) (upd H' p (.lst ((srt ps).map (·.1))))
section
variable {X : Cx} {f : Addr} {fd : FuncData} {sp : Sp} {k : Nat} {ps : List Str}
theorem cr_sortedKey (hc : X.calm = true) (F : FnOk X.prog X.w X.K X.mg X.base CX0 k f fd ps sp) (hr : Room (k + 2) X.A) (hb : Binds X.K fd ps []) : CallRK X (.builtin "sorted") [Str.ofString "key"] (rSortedKey X.K f sp) := by
  intro pins s σ H vs zs us ws Q I r rz h
  obtain ⟨l, qs, rfl, rfl, hl, ok, hsp, q⟩ := h
  rw [Vals.ref1 r]
  cases rz with
  | cons rd rr =>
  cases rr
  cases rd
  obtain ⟨its, rv, pl, hz⟩ := I.list hl
  have hlen : its.length = qs.length := by rw [← rv.length, List.length_map]
  have hzi : its.length ≤ sizeLine := by rw [← rv.length]; exact hz
  have hr2 : Room k X.A.in1.in1 := (Room.in1 (Room.in1 hr))
  show wpAny _ _ (call (.builtin "sorted") [.ref l] [(Str.ofString "key", .ref f)]) _ _ _
  refine PySem.W.sorted_of_sort pl.isList hzi (ksk_s1 _ _) (fun x => ksk_l1 _ _) fun E' => ?_
  rw [ksk_t1]
  -- the new list
  have hsz1 : s.heap.objs.size + 1 < (PySem.W.copyHeap s.heap its).objs.size := Heap.lt_size (PySem.W.copyHeap_at s.heap its)
  have I1 : Inv X pins σ H { s with heap := PySem.W.copyHeap s.heap its } := I.kept (t' := s.toks) fun b o e => PySem.W.copyHeap_old e
  have fA : ∀ H' : Hp, H' (s.heap.objs.size + 1) = none → FpOk X pins H' (s.heap.objs.size + 1) := fun H' n => I.fpOk (Nat.le_succ _) n
  have nA : H (s.heap.objs.size + 1) = none := I.hok.fresh (Nat.le_succ _)
  generalize hg : PySem.W.copyHeap s.heap its = g at I1 hsz1 ⊢
  have ho : g.get? (s.heap.objs.size + 1) = some (seqObj "list" its.toArray 0) := by rw [← hg]; exact PySem.W.copyHeap_at s.heap its
  generalize hA : s.heap.objs.size + 1 = a at *
  obtain ⟨e1, ho1⟩ : ∃ e1, (g.update a (Obj.mapSeq fun _ => (#[] : Array Value))).get? a = some (seqObj "list" #[] e1) := ⟨_, get?_update_seq ho fun _ => #[]⟩
  unfold ksk_tree
  refine wpAny_bind (listItems_at ho rfl ?_)
  refine wpAny_bind (listUpdate_at ho rfl ?_ (by rw [List.size_toArray]; exact hzi) (Nat.zero_le _))
  refine wpAny_bind (seqEpoch_at ho1 rfl ?_)
  refine wpAny_bind (wpAny_newTuple ?_ (by show its.length ≤ _; exact hzi))
  refine wpAny_bind (wpAny_newList ?_ (Nat.zero_le _))
  refine wpAny_holding ?_
  have hkS : ((g.update a (Obj.mapSeq fun _ => (#[] : Array Value))).push (seqObj "tuple" its.toArray 0)).objs.size = g.objs.size + 1 := by rw [size_push', Heap.size_update]
  generalize hK : ((g.update a (Obj.mapSeq fun _ => (#[] : Array Value))).push (seqObj "tuple" its.toArray 0)).objs.size = kS at *
  subst hkS
  have hka : g.objs.size + 1 ≠ a := Nat.ne_of_gt (Nat.lt_succ_of_lt hsz1)
  have I2 : Inv X pins σ H { s with heap := ((g.update a (Obj.mapSeq fun _ => (#[] : Array Value))).push (seqObj "tuple" its.toArray 0)).push (seqObj "list" #[] 0) } :=
    inv_turned1 (s := { s with heap := g }) (t' := s.toks) I1 (fun b o hb e => Heap.get?_push_of_some _ (Heap.get?_push_of_some _ ((Heap.get?_update_ne _ _ _ _ hb).trans e))) (fA _ nA)
  have nK : H (g.objs.size + 1) = none := I1.hok.fresh (Nat.le_succ _)
  have fK : ∀ H' : Hp, H' (g.objs.size + 1) = none → FpOk X pins H' (g.objs.size + 1) := fun H' n => I1.fpOk (Nat.le_succ _) n
  have gK : (((g.update a (Obj.mapSeq fun _ => (#[] : Array Value))).push (seqObj "tuple" its.toArray 0)).push (seqObj "list" #[] 0)).get? (g.objs.size + 1) = some (seqObj "list" #[] 0) := by
    rw [← hK]
    exact Heap.get?_push_size _ rfl
  have gA : (((g.update a (Obj.mapSeq fun _ => (#[] : Array Value))).push (seqObj "tuple" its.toArray 0)).push (seqObj "list" #[] 0)).get? a = some (seqObj "list" #[] e1) := Heap.get?_push_of_some _ (Heap.get?_push_of_some _ ho1)
  generalize (((g.update a (Obj.mapSeq fun _ => (#[] : Array Value))).push (seqObj "tuple" its.toArray 0)).push (seqObj "list" #[] 0)) = g2 at I2 gK gA ⊢
  unfold ksk_rest
  refine wpAny_bind (wpAny_rule ?_)
  first
    | rw [List.forIn_toArray]
    | (rw [← Array.forIn_toList]; simp only [List.toList_toArray])
    | rw [← Array.forIn_toList]
  refine wpAny_bind (ksk_fold (fun i s' => ∃ (H' : Hp) (kA : Array Value) (e : Nat), Inv X pins σ H' s' ∧ Same H H' ∧ H' a = none ∧ H' (g.objs.size + 1) = none ∧ s'.heap.get? (g.objs.size + 1) = some (seqObj "list" kA e) ∧ s'.heap.get? a = some (seqObj "list" #[] e1) ∧
      EachIs (fun v (d : PyData) => ∃ y, RelV y v ∧ Dp X.K H' y d) kA.toList ((qs.map (·.2)).take i)) its 0 _
    ⟨H, #[], 0, I2, Same.refl H, nA, nK, gK, gA, by rw [List.take_zero]; exact .nil⟩ ?step ?done)
  case step =>
    rintro j x s' hx ⟨H', kA, e, I3, sm, nA', nK', gK', gA', hk⟩
    simp only [Nat.zero_add] at hk ⊢
    have hj : j < its.length := (List.getElem?_eq_some_iff.mp hx).1
    obtain ⟨p, hpj⟩ : ∃ p, qs[j]? = some p := ⟨_, List.getElem?_eq_getElem (by omega)⟩
    have hpm : p ∈ qs := List.mem_of_getElem? hpj
    have rx : RelV p.1 x := by
      obtain ⟨u, hu, ru⟩ := Vals.get rv (i := j) (x := p.1) (by rw [List.getElem?_map, hpj]; rfl)
      rw [hx] at hu
      cases hu
      exact ru
    have hzk : kA.size ≤ its.length := by
      have h1 := hk.length
      rw [Array.length_toList, List.length_take, List.length_map] at h1
      omega
    have obs : ∀ b ∈ [a, g.objs.size + 1], ∃ o, s'.heap.get? b = some o ∧ ∀ v, o.data ≠ .cell v := fun b hb => by
      rcases List.mem_cons.mp hb with rfl | hb
      · exact ⟨_, gA', fun v z => by cases z⟩
      · obtain rfl : b = g.objs.size + 1 := by simpa using hb
        exact ⟨_, gK', fun v z => by cases z⟩
    have I3' := I3.pinned (fp := [a, g.objs.size + 1]) (fun b hb => by
      rcases List.mem_cons.mp hb with rfl | hb
      · exact fA _ nA'
      · obtain rfl : b = g.objs.size + 1 := by simpa using hb
        exact fK _ nK') obs
    have run : wpAny (model X.prog X.w) X.A.in1.in1 (call (.ref f) [x]) (EP X (pins ++ pinsAt [a, g.objs.size + 1] s'.heap) σ fun y H2 => Same H' H2 ∧ Dp X.K H2 y p.2) (fun _ _ => False) s' := by
      have sq := hsp p hpm H' (fun y H2 => Same H' H2 ∧ Dp X.K H2 y p.2) sm (fun y H2 e d => ⟨e, d⟩) (fun _ _ _ => False)
      have e0 := I3.env0.in1.in1
      refine wpAny_call (codeAny_mono (F.run X.A.in1.in1 X.stack s' H' ⟨[x], []⟩ [x] [p.1] _ _ hr2 e0 (by
        have hb' := hb s' [x] I3.kIn (by rw [List.append_nil]; exact F.len _ _ _ _ sq)
        rw [List.append_nil] at hb'
        exact hb') (.cons rx .nil) sq) fun r s'' hq => ?_)
      cases r with
      | error e => exact (show False from hq).elim
      | ok fl =>
        cases fl with
        | ret u => exact I3'.after hq
        | next => exact False.elim hq
        | brk => exact False.elim hq
        | cont => exact False.elim hq
    refine wpAny_bind (wpAny_attempt (wpAny_mono run (fun u s2 he => ?_) fun _ _ hF => hF.elim))
    obtain ⟨y, H2, I4', ry, sm2, dy⟩ := he
    try dsimp only
    have I4 := I4'.unpinned
    obtain ⟨gA2, nA2⟩ := pinIn I4' (p := (a, seqObj "list" #[] e1)) (mem_pinsAt (by simp) gA')
    obtain ⟨gK2, nK2⟩ := pinIn I4' (p := (g.objs.size + 1, seqObj "list" kA e)) (mem_pinsAt (by simp) gK')
    obtain ⟨c2, hc2⟩ : ∃ c2, (s2.heap.update (g.objs.size + 1) (Obj.mapSeq (·.push u))).get? (g.objs.size + 1) = some (seqObj "list" (kA.push u) c2) := ⟨_, get?_update_seq gK2 (·.push u)⟩
    refine wpAny_bind (listUpdate_at gK2 rfl ?_ (Nat.le_trans hzk hzi) (Nat.le_trans (Nat.le_of_eq (Array.size_push ..)) (Nat.succ_le_succ (Nat.le_trans hzk hzi))))
    refine wpAny_pure ⟨rfl, H2, kA.push u, c2, inv_turned1 I4 (t' := s2.toks) (h' := s2.heap.update (g.objs.size + 1) (Obj.mapSeq (·.push u))) (fun b o hb q => (Heap.get?_update_ne _ _ _ _ hb).trans q) (fK _ nK2), sm.trans sm2, nA2, nK2, hc2, (Heap.get?_update_ne _ _ _ _ hka.symm).trans gA2, ?_⟩
    have ek : (qs.map (·.2)).take (j + 1) = (qs.map (·.2)).take j ++ [p.2] := by rw [List.take_add_one, List.getElem?_map, hpj]; simp
    have ea : (kA.push u).toList = kA.toList ++ [u] := by simp
    rw [ea, ek]
    exact PySem.W.each_snoc ⟨y, ry, dy⟩ (hk.mono fun v d ⟨y, ry, dy⟩ => ⟨y, ry, dpSame sm2 _ _ dy⟩)
  case done =>
    rintro s' ⟨H', kA, e, I3, sm, nA', nK', gK', gA', hk⟩
    have e3 : (qs.map (·.2)).take (0 + its.length) = qs.map (·.2) := List.take_of_length_le (by rw [List.length_map]; omega)
    rw [e3] at hk
    have hk' : EachIs (fun v k => ∃ as, Reads s'.heap v k as) kA.toList (qs.map (·.2)) := hk.mono fun v d ⟨y, ry, dy⟩ => Dp.reads I3 d y v dy ry
    have hsz : kA.size = its.length := by
      have h1 := hk'.length
      rw [Array.length_toList, List.length_map] at h1
      omega
    try dsimp only
    refine wpAny_bind (listItems_at gK' rfl ?_)
    have S : PySem.W.SortsAt X.prog X.w X.A.in1.in1 s' (PySem.W.dataKind s'.heap (qs.map (·.2))) kA.toList := sortsAt_ok hk' ok (by have := hr.un; show X.A.units + 1 + 1 + 64 < cLine; omega)
    refine PySem.W.keyH_end (κ := PySem.W.dataKind s'.heap (qs.map (·.2))) (h₁ := PySem.W.hideAll s'.heap [g.objs.size + 1]) (b := false) (fun b o _ q => PySem.W.of_hideAll _ q) (PySem.W.hideAll_none _ (by simp)) gK' gA' hka S hsz hzi fun h3 tk3 c k3 n3 => ⟨rfl, ?_⟩
    have kk : ∀ b o, b ≠ a → b ≠ g.objs.size + 1 → s'.heap.get? b = some o → h3.get? b = some o := fun b o h1 h2 q => k3 b o h1 (PySem.W.hideAll_get _ q (by simpa using h2))
    have out : EachIs (fun u (p : V × PyData) => RelV p.1 u) (PySem.W.sortVals (PySem.W.dataKind s'.heap (qs.map (·.2))) false kA.toList its) (srt qs) := by
      have ev : EachIs (fun u (p : V × PyData) => RelV p.1 u) its qs := by
        refine EachIs.of_zip hlen fun z hz => ?_
        obtain ⟨i, hi⟩ := List.mem_iff_getElem?.mp hz
        obtain ⟨h1, h2⟩ := List.getElem?_zip_eq_some.mp hi
        obtain ⟨u, hu, ru⟩ := Vals.get rv (i := i) (x := z.2.1) (by rw [List.getElem?_map, h2]; rfl)
        rw [h1] at hu
        cases hu
        exact ru
      exact PySem.W.keyedOut_each (rev := false) (k := fun p : V × PyData => p.2) ⟨s'.heap, kA.toList, ok.al, rfl, hk'⟩ ev
    generalize PySem.W.sortVals (PySem.W.dataKind s'.heap (qs.map (·.2))) false kA.toList its = outv at n3 out
    have I5 : Inv X pins σ H' { s' with heap := h3, toks := tk3 } := by
      refine I3.step (h' := h3) (g' := s'.gens) (d' := s'.drawn) (t' := tk3) (ch := [a, g.objs.size + 1]) (fun b hb => ?_) (fun b o _ _ hb e _ => kk b o (fun z => hb (by simp [z])) (fun z => hb (by simp [z])) e) (fun b o _ _ hb e _ => ⟨o.slots, kk b o (fun z => hb (by simp [z])) (fun z => hb (by simp [z])) e⟩) (fun _ _ _ _ n => n)
        (fun b o hb e => ⟨o, kk b o (fun z => hb (by simp [z])) (fun z => hb (by simp [z])) e⟩) (fun _ _ e => e) (fun _ _ _ e => e) (fun b ps e => ⟨#[], by rw [e]; simp⟩) (fun m hm => ?_) (fun b u e => ?_) I3.bare
      · rcases List.mem_cons.mp hb with rfl | hb
        · obtain ⟨_, f1, _, f3, f4, f5⟩ := fA _ nA'
          exact ⟨f3, f1, f4, f5⟩
        · obtain rfl : b = g.objs.size + 1 := by simpa using hb
          obtain ⟨_, f1, _, f3, f4, f5⟩ := fK _ nK'
          exact ⟨f3, f1, f4, f5⟩
      · obtain ⟨o, es, ep, ho, r⟩ := hm
        exact ⟨o, es, ep, kk _ o (Ne.symm (fA _ nA').2.1) (Ne.symm (fK _ nK').2.1) ho, r⟩
      · refine (I3.hok b u e).stay (fun c v hc q => kk c v ?_ ?_ q) (fun _ q => q) fun _ _ q => q
        · rcases hc with z | z
          · rw [z]
            intro z2
            rw [z2, nA'] at e
            cases e
          · intro z2
            rw [z2, nA'] at z
            cases z
        · rcases hc with z | z
          · rw [z]
            intro z2
            rw [z2, nK'] at e
            cases e
          · intro z2
            rw [z2, nK'] at z
            cases z
    have vs' := vals_each out
    refine ⟨.ref a, _, inv_adopt I5 (fA _ nA') (o := .lst ((srt qs).map (·.1))) ⟨?_, outv, c, vs', n3⟩, rfl, q H' a sm nA'⟩
    rw [vs'.length, out.length, (srt_perm qs).length_eq, ← hlen]
    exact hzi
end
end Wc
set_option maxRecDepth 100000
set_option maxHeartbeats 4000000
/-! W13: min(xs, key=lambda x: ..), the lambda captures names of the def. -/
namespace Wc
open PySem PySem.Spec PyProof.Rows L2 LamX NdefX
open PySem.W (dataLt alike)

/-- the lambda's words -/
abbrev lamNF (q : Str) (params : Arguments) (scope : Scope) (cl : List (Str × Addr)) (c' : Addr) : NF := ⟨"<lambda>", q ++ "<lambda>", params, [], scope, cl, c'⟩
/-- the reading of min(xs, key=lambda ..) -/
def tMinLam (K : PySem.W.Frag) (T : List (Addr × Str)) (N : List Str) (js : List Nat) (t : TA) (tb : TE) : TE := fun σ H Q => t σ H fun vs H1 => Tabs T H1 ∧ ∃ (a : Addr) (xs : List V) (kf : Nat → PyData), vs = [.ref a] ∧ xs ≠ [] ∧ KeysOk xs.length kf ∧
  ∀ H2, ExtN H1 H2 → Tabs T H2 → (SqL K H2 a xs ∨ SqT K H2 a xs) ∧ (∀ i x, xs[i]? = some x → ∀ H', Same H2 H' → tb (startF N [x] (js.map (slotAt σ))) H' fun y H3 => Same H' H3 ∧ Dp K H3 y (kf i)) ∧
    ∀ i x, xs[i]? = some x → (∀ j, j < xs.length → dataLt (kf j) (kf i) = false) → ∀ H', Same H2 H' → Q x H'
theorem min_args_key (a v : Value) : argsOk "min" ⟨[a], [(Str.ofString "key", v)]⟩ := by unfold argsOk; kernel_rfl
section
variable {X : Cx}
theorem pe_minLam {T : List (Addr × Str)} {c P : Addr} {k : Nat} {params : Arguments} {body : Expr} {scope : Scope} {N fr : List Str} {xn : Str} {js : List Nat} {e : Expr} {t : TA} {tb : TE} {p kpos lpos pos : Pos}
    (hc : X.calm = true) (hg : Gl X "min") (hm : X.mg "min" = none) (ha : PA X [e] t)
    (TB : TabB X.base X.mg c P) (hcode : X.env.code = .ref c) (hmT : (P, X.env.qual ++ "<lambda>") ∈ T) (hu : ∀ p ∈ T, p.1 = P → p.2 = X.env.qual ++ "<lambda>") (hr : Room (k + 2) X.A)
    (hdef : defaultsOf params X.env = ([], [])) (S : NScope N [xn] fr scope) (hfree : ∀ y ∈ scope.names, y.2 = .free → X.env.scope.names.lookup y.1 = some .cell ∨ X.env.scope.names.lookup y.1 = some .free) (hfr : ∀ y ∈ fr, (y, NameKind.free) ∈ scope.names) (hjs : js.map (fun j => X.N[j]?) = fr.map some)
    (hbind : ∀ (q : Str) (cl : List (Str × Addr)) (pm cv ctv v : Value), bindArgs (PySem.W.kla_fn "<lambda>" q params body scope cl pm cv ctv) ⟨[v], []⟩ = pure [(xn, v)])
    (hbody : ∀ (A : Around) (outer : List Env) (s : Shared) (H : Hp) (f c' : Addr), Room k (A.deeper (envF (lamNF X.env.qual params scope (cloFrom X.env.cells scope.names []) c') f s.heap.objs.size)) →
      PE (ncx CX0 X.prog X.w X.K X.mg X.base N (lamNF X.env.qual params scope (cloFrom X.env.cells scope.names []) c') f A outer s H fun _ _ _ => False) body tb)
    (he : backTo pos (starEach [e] X.env) = (false, eval e X.env) :: backTo pos (starEach [] X.env) := by rfl) (hpl : (backTo pos (starEach [e] X.env)).any (·.1) = false := by rfl) :
    PE X (.Call (.Name "min" p) [e] [⟨some "key", .Lambda params body scope lpos, kpos⟩] pos) (tMinLam X.K T N js t tb) := by
  refine ⟨fun pins s σ H Q I h => ?_⟩
  refine wpAny_Call_Name_kw (ld_blt I hg hm (by decide +kernel : bootBuiltins "min" = some (.builtin "min")) ?_ (by decide) (by decide))
  have hfr' : ∀ y ∈ scope.names, y.2 = .free → ∃ c, X.env.cells.lookup y.1 = some c := fun y hy e => (hfree y hy e).elim (fun z => I.ok.has _ (.inl z)) fun z => I.ok.has _ (.inr z)
  refine PyProof.Rows.callWith_kw (thn (ha.run pos pins s σ H _ I h) fun us s1 ⟨vs, H1, I1, r1, q1⟩ => ?_) he hpl (by rfl) (by rfl)
  obtain ⟨hT, a, xs, kf, rfl, hne, al, q1⟩ := q1
  rw [Vals.ref1 r1]
  show wpAny _ _ (evalAll [do let v ← eval (.Lambda params body scope lpos) X.env; standAt pos; pure v]) _ _ s1
  refine wpAny_evalAll_cons (wpAny_bind (lam_make2 I1 TB hcode hmT hu hT hdef hfr' fun f c' pm ctv H2 s2 I2 eN T2 hf hfn hfs hco => wpAny_bind (wpAny_standAt (wpAny_pure (wpAny_evalAll_nil ?_)))))
  obtain ⟨hl, hb, q⟩ := q1 H2 eN T2
  show wpAny _ _ (call (.builtin "min") [.ref a] [(Str.ofString "key", .ref f)]) _ _ s2
  -- the function's object is kept
  have nfs : f ∉ X.fs := fun z => hfs (by
    rcases I2.ok.stk with e | ⟨e, hf'⟩
    · rw [e]; exact z
    · rw [e]
      unfold frs
      rw [List.filterMap_cons, hf']
      exact List.mem_cons_of_mem _ z)
  have nfl : f ≠ X.env.locals := fun z => by
    obtain ⟨m, ⟨o, es, ep, ho, hd, _⟩, _⟩ := I2.loc
    rw [← z, hf] at ho
    cases ho
    cases hd
  have I3 : Inv X (pins ++ [(f, PySem.W.kla_obj "<lambda>" (X.env.qual ++ "<lambda>") params body scope (cloFrom X.env.cells scope.names []) pm c' ctv)]) σ H2 s2 := I2.pins_of fun p hp => by
    rcases List.mem_append.mp hp with hp | hp
    · exact I2.pin p (List.mem_append_right _ hp)
    · obtain rfl : p = _ := by simpa using hp
      exact ⟨hf, hfn, nfl, nfs, fun v z => by cases z⟩
  refine min_run (kf := kf) (pl := [(f, PySem.W.kla_obj "<lambda>" (X.env.qual ++ "<lambda>") params body scope (cloFrom X.env.cells scope.names []) pm c' ctv)]) (key := .ref f) (dflt := none) hc (by have := hr.un; omega) I3 hl (min_args_key _ _) rfl al (fun p hp => List.mem_append_right _ hp) (.inr ⟨⟨f, rfl⟩, ?_⟩)
    (fun i x v H' s' hx rv hm' I' e' => ⟨x, H', I'.unpinned, rv, q i x hx hm' H' e'⟩) fun e0 => absurd e0 hne
  intro pins' hpl' s' H' i x v Q' I' sm hx rv hQ'
  obtain ⟨hf', _⟩ : s'.heap.get? f = some (PySem.W.kla_obj "<lambda>" (X.env.qual ++ "<lambda>") params body scope (cloFrom X.env.cells scope.names []) pm c' ctv) ∧ H' f = none := by
    obtain ⟨z1, z2, _⟩ := I'.pin _ (List.mem_append_right _ (hpl' _ (List.mem_singleton.mpr rfl)))
    exact ⟨z1, z2⟩
  have hr1 : Room (k + 1) X.A.in1 := Room.in1 hr
  obtain ⟨oc, vs, tk, hoc, hdc, hvc⟩ : ∃ (oc : Obj) (vs : Array Value) (t : Tok), s'.heap.get? c' = some oc ∧ oc.data = .fields vs ∧ vs[1]? = some (.str (X.env.qual ++ "<lambda>") t) := by
    obtain ⟨z, _, _⟩ := I'.hok c' _ (sm _ _ hco)
    exact z
  have C := cells_of I' (Caps.made I'.ok hfree hfr hjs)
  have e0 := I'.env0.in1
  have lim : s'.heap.NoLimit := I'.nolimit
  have body' := hb i x hx H' sm
  have rc : codeAny (model X.prog X.w) X.A.in1 (.call (.ref f) ⟨[v], []⟩) (CR CX0 X.stack X.prog X.w H' s' (fun y H3 => Same H' H3 ∧ Dp X.K H3 y (kf i)) (fun _ _ _ => False)) s' := by
    refine PySem.W.kla_callFunE hr1.depth hf' rfl S.co S.gen rfl ⟨c', oc, vs, tk, rfl, hoc, hdc, hvc⟩ ?_
    rw [hbind]
    refine wpAny_pure (wpAny_newFunctionEnv S.nocell (fun y hy => ?_) (fun h₁ hns hsb => ⟨lim.fresh _ hsb, ?_⟩) S.kind)
    · obtain rfl : y = (xn, v) := by simpa using hy
      exact S.par xn (List.mem_singleton.mpr rfl)
    show codeAny _ _ (.expr body (envF (lamNF X.env.qual params scope (cloFrom X.env.cells scope.names []) c') f s'.heap.objs.size)) _ _
    have kp : ∀ b o, s'.heap.get? b = some o → h₁.get? b = some o := fun b o e => hsb.extBut b o (Nat.ne_of_lt (Heap.lt_size e)) (Heap.get?_push_of_some _ e)
    have J : Inv (ncx CX0 X.prog X.w X.K X.mg X.base N (lamNF X.env.qual params scope (cloFrom X.env.cells scope.names []) c') f X.A.in1 X.stack s' H' fun _ _ _ => False) [] (startF N [x] (js.map (slotAt σ))) H' { s' with heap := h₁, toks := s'.toks + [(xn, v)].length } :=
      inv_startN (F := lamNF X.env.qual params scope (cloFrom X.env.cells scope.names []) c') (ps := [xn]) (us := [v]) S hr1.hd e0 rfl (.cons rv .nil) C hns kp
    refine PySem.W.kla_codeExpr (wpAny_mono ((hbody X.A.in1 X.stack s' H' f c' (Room.deeper hr1 _)).run [] _ _ H' _ J body') (fun y s2' hq => ?_) fun e s2' hq => hq)
    obtain ⟨w', H3, J', rv', q'⟩ := hq
    exact ⟨w', H3, J'.os, J'.bare, J'.base, J'.hok, rv', q'⟩
  refine wpAny_call (codeAny_mono rc fun r s3 hq => ?_)
  cases r with
  | error e => exact (show False from hq).elim
  | ok fl =>
    cases fl with
    | ret u =>
      obtain ⟨y, H3, I4, ry, e3, d3⟩ := I'.after hq
      exact hQ' y H3 s3 u I4 e3 d3 ry
    | next => exact False.elim hq
    | brk => exact False.elim hq
    | cont => exact False.elim hq
end
end Wc
set_option maxRecDepth 100000
set_option maxHeartbeats 4000000
/-! W14: zip of two tuples, strict=True, at the library's level. -/
namespace Wc
open PySem
open PySem.Sem (wp)
open PyProof.Rows
/-- a strict zip -/
abbrev IsZipS (h : Heap) (z TI TO : Addr) (f0 : Value) : Prop :=
  h.get? z = some { cls := .type "zip", dict := none, data := .fields #[f0, .bool false, .bool true, .ref TI, .ref TO], slots := #[] }
section
variable {prog : Program} {w : World} {A : Around} {E : Value → Shared → Prop} {s : Shared}
theorem nextOrEnd_item {it l : Addr} {i : Nat} {items} {x : Value} {Q : Option Value → Shared → Prop} (hit : s.heap.IsTupleIter it l i)
    (hl : s.heap.IsTuple l items) (hx : items[i]? = some x)
    (hQ : ∀ h', h'.IsTupleIter it l (i + 1) → Heap.SameBut it s.heap h' → Q (some x) { s with heap := h' }) :
    wpAny (model prog w) A (Builtin.SmallTypes.nextOrEnd (.ref it)) Q E s := by
  unfold Builtin.SmallTypes.nextOrEnd
  exact wpAny_bind (wpAny_attempt (RZ.nextOf_tuple_item hit hl hx fun h' a b => wpAny_pure (hQ h' a b)))
theorem nextOrEnd_end {it l : Addr} {i : Nat} {items} {Q : Option Value → Shared → Prop} (hh : A.handled = none)
    (hit : s.heap.IsTupleIter it l i) (hl : s.heap.IsTuple l items) (hx : items[i]? = none)
    (hQ : ∀ h', Heap.ExtBut it s.heap h' → Q none { s with heap := h' }) :
    wpAny (model prog w) A (Builtin.SmallTypes.nextOrEnd (.ref it)) Q E s := by
  unfold Builtin.SmallTypes.nextOrEnd
  refine wpAny_bind (wpAny_attempt (RZ.nextOf_tuple_end hh hit hl hx fun h' e hb he => ?_))
  obtain ⟨o, ho, hc⟩ := he
  refine wpAny_bind (wpAny_isInstance (T := "StopIteration") (b := true) ⟨o, ho, hc⟩ isSubtype_stop ?_)
  exact wpAny_pure (hQ h' hb)
theorem zipS_next_item {z TI TO i1 i2 l1 l2 : Addr} {k1 k2 : Nat} {xs ys : Array Value} {x y a b : Value} {Q : Value → Shared → Prop} (D : ZipApart z TI TO i1 i2 l1 l2)
    (hz : IsZipS s.heap z TI TO .none) (hTI : IsPair s.heap TI (.ref i1) (.ref i2)) (hTO : IsPair s.heap TO a b)
    (h1 : s.heap.IsTupleIter i1 l1 k1) (h2 : s.heap.IsTupleIter i2 l2 k2) (hl1 : s.heap.IsTuple l1 xs) (hl2 : s.heap.IsTuple l2 ys) (hx : xs[k1]? = some x) (hy : ys[k2]? = some y)
    (hQ : ∀ h', IsZipS h' z TI TO (rawInt s.heap.objs.size) → IsPair h' TO x y → h'.IsTupleIter i1 l1 (k1 + 1) → h'.IsTupleIter i2 l2 (k2 + 1) → IsPair h' s.heap.objs.size x y → h'.objs.size = s.heap.objs.size + 1 →
      (∀ c o, c ≠ z → c ≠ TO → c ≠ i1 → c ≠ i2 → s.heap.get? c = some o → h'.get? c = some o) → Q (.ref s.heap.objs.size) { s with heap := h' }) :
    wpAny (model prog w) A (Builtin.«zip.__next__» ⟨[.ref z], []⟩) (fun fin s' => ∃ v, fin = .done (.ret v) ∧ Q v s') E s := by
  show wpAny _ _ (field (.ref z) 2 >>= _) _ _ _
  refine wpAny_bind (wpAny_field hz rfl (x := .bool true) rfl ?_)
  show wpAny _ _ (field (.ref z) 3 >>= _) _ _ _
  refine wpAny_bind (wpAny_field hz rfl (x := .ref TI) rfl ?_)
  refine wpAny_bind (wpAny_seqItems hTI rfl ?_)
  show wpAny _ _ (Builtin.SmallTypes.ownedTupleIsFree (.ref z) >>= _) _ _ _
  refine wpAny_bind ?_
  unfold Builtin.SmallTypes.ownedTupleIsFree
  refine wpAny_bind (wpAny_field hz rfl (x := .none) rfl (wpAny_pure ?_))
  simp only [if_true]
  refine wpAny_bind (wpAny_rule ?_)
  refine wpAny_bind (wpAny_field hz rfl (x := .ref TO) rfl ?_)
  refine wpAny_bind (wpAny_setField_rec hz (by simp) fun h₁ hz₁ hs₁ => ?_)
  replace hz₁ : IsZipS h₁ z TI TO .ellipsis := hz₁
  refine wpAny_bind ?_
  simp only [List.zipIdx_cons, List.zipIdx_nil, List.forIn_cons, List.forIn_nil]
  refine wpAny_bind (wpAny_bind (wpAny_onRaise ?_))
  show wpAny _ _ (Builtin.SmallTypes.nextOrEnd (.ref i1)) _ _ _
  refine nextOrEnd_item (h1.extBut hs₁.extBut D.i1z) (hl1.extBut hs₁.extBut D.l1z) hx fun h₂ h1₂ hs₂ => ?_
  have hTO₂ : IsPair h₂ TO a b := hs₂.extBut _ _ D.TOi1 (hs₁.extBut _ _ D.TOz hTO)
  refine wpAny_bind (wpAny_seqItems hTO₂ rfl ?_)
  refine wpAny_bind (wpAny_updateSeq_pair hTO₂ fun h₃ hTO₃ hs₃ => ?_)
  replace hTO₃ : IsPair h₃ TO x b := hTO₃
  refine wpAny_bind (wpAny_letGo (wpAny_pure ?_))
  refine wpAny_bind (wpAny_bind (wpAny_onRaise ?_))
  show wpAny _ _ (Builtin.SmallTypes.nextOrEnd (.ref i2)) _ _ _
  refine nextOrEnd_item (((h2.extBut hs₁.extBut D.i2z).extBut hs₂.extBut D.i12.symm).extBut hs₃.extBut D.TOi2.symm)
    (((hl2.extBut hs₁.extBut D.l2z).extBut hs₂.extBut D.l2i1).extBut hs₃.extBut D.l2TO) hy fun h₄ h2₄ hs₄ => ?_
  have hTO₄ : IsPair h₄ TO x b := hs₄.extBut _ _ D.TOi2 hTO₃
  refine wpAny_bind (wpAny_seqItems hTO₄ rfl ?_)
  refine wpAny_bind (wpAny_updateSeq_pair hTO₄ fun h₅ hTO₅ hs₅ => ?_)
  replace hTO₅ : IsPair h₅ TO x y := hTO₅
  refine wpAny_bind (wpAny_letGo (wpAny_pure (wpAny_pure ?_)))
  refine wpAny_bind (wpAny_seqItems hTO₅ rfl ?_)
  refine wpAny_bind (wpAny_newTuple ?_)
  have hsz : h₅.objs.size = s.heap.objs.size := by rw [hs₅.1, hs₄.1, hs₃.1, hs₂.1, hs₁.1]
  have hz₅ : IsZipS h₅ z TI TO .ellipsis := hs₅.extBut _ _ D.TOz.symm (hs₄.extBut _ _ D.i2z.symm (hs₃.extBut _ _ D.TOz.symm (hs₂.extBut _ _ D.i1z.symm hz₁)))
  have hk₅ : ∀ c o, c ≠ z → c ≠ TO → c ≠ i1 → c ≠ i2 → s.heap.get? c = some o → h₅.get? c = some o := fun c o c1 c2 c3 c4 e =>
    hs₅.extBut _ _ c2 (hs₄.extBut _ _ c4 (hs₃.extBut _ _ c2 (hs₂.extBut _ _ c3 (hs₁.extBut _ _ c1 e))))
  have h1₅ : h₅.IsTupleIter i1 l1 (k1 + 1) := ((h1₂.extBut hs₃.extBut D.TOi1.symm).extBut hs₄.extBut D.i12).extBut hs₅.extBut D.TOi1.symm
  have h2₅ : h₅.IsTupleIter i2 l2 (k2 + 1) := h2₄.extBut hs₅.extBut D.TOi2.symm
  have hzlt : z < h₅.objs.size := Heap.lt_size hz₅
  show wpAny _ _ (Builtin.SmallTypes.ownedTupleHandOut (.ref z) (.ref h₅.objs.size) >>= _) _ _ _
  refine wpAny_bind ?_
  unfold Builtin.SmallTypes.ownedTupleHandOut
  have hz₆ : IsZipS (h₅.push { cls := .type "tuple", data := .seq #[x, y] }) z TI TO .ellipsis := Heap.get?_push_of_some _ hz₅
  refine wpAny_bind (wpAny_setField_rec hz₆ (by simp) fun h₇ hz₇ hs₇ => ?_)
  replace hz₇ : IsZipS h₇ z TI TO (rawInt h₅.objs.size) := hz₇
  refine wpAny_setField_rec hz₇ (by simp) fun h₈ hz₈ hs₈ => ?_
  replace hz₈ : IsZipS h₈ z TI TO (rawInt h₅.objs.size) := hz₈
  have up : ∀ c o, c ≠ z → h₅.get? c = some o → h₈.get? c = some o := fun c o c1 e => hs₈.extBut _ _ c1 (hs₇.extBut _ _ c1 (Heap.get?_push_of_some _ e))
  have hT₈ : IsPair h₈ h₅.objs.size x y := hs₈.extBut _ _ (Nat.ne_of_gt hzlt) (hs₇.extBut _ _ (Nat.ne_of_gt hzlt) (Heap.get?_push_size _ rfl))
  have hz8 : h₈.objs.size = h₅.objs.size + 1 := by rw [hs₈.1, hs₇.1, Heap.size_push]
  rw [hsz] at hz₈ hT₈ hz8
  refine wpAny_pure ⟨_, rfl, ?_⟩
  show Q (.ref h₅.objs.size) _
  rw [hsz]
  exact hQ h₈ hz₈ (up _ _ D.TOz hTO₅) (h1₅.at fun o e => up _ o D.i1z e) (h2₅.at fun o e => up _ o D.i2z e) hT₈ hz8 fun c o c1 c2 c3 c4 e => up c o c1 (hk₅ c o c1 c2 c3 c4 e)
theorem zipS_next_end {z TI TO i1 i2 l1 l2 : Addr} {k1 k2 : Nat} {xs ys : Array Value} {a b : Value} {Q : Fin → Shared → Prop} (hh : A.handled = none) (D : ZipApart z TI TO i1 i2 l1 l2)
    (hz : IsZipS s.heap z TI TO .none) (hTI : IsPair s.heap TI (.ref i1) (.ref i2)) (hTO : IsPair s.heap TO a b)
    (h1 : s.heap.IsTupleIter i1 l1 k1) (h2 : s.heap.IsTupleIter i2 l2 k2) (hl1 : s.heap.IsTuple l1 xs) (hl2 : s.heap.IsTuple l2 ys) (hx : xs[k1]? = none) (hy : ys[k2]? = none)
    (hE : ∀ h' e, (∀ c o, c ≠ z → c ≠ TO → c ≠ i1 → c ≠ i2 → s.heap.get? c = some o → h'.get? c = some o) → (∃ o, h'.get? e = some o ∧ o.cls = .type "StopIteration") → E (.ref e) { s with heap := h' }) :
    wpAny (model prog w) A (Builtin.«zip.__next__» ⟨[.ref z], []⟩) Q E s := by
  show wpAny _ _ (field (.ref z) 2 >>= _) _ _ _
  refine wpAny_bind (wpAny_field hz rfl (x := .bool true) rfl ?_)
  show wpAny _ _ (field (.ref z) 3 >>= _) _ _ _
  refine wpAny_bind (wpAny_field hz rfl (x := .ref TI) rfl ?_)
  refine wpAny_bind (wpAny_seqItems hTI rfl ?_)
  show wpAny _ _ (Builtin.SmallTypes.ownedTupleIsFree (.ref z) >>= _) _ _ _
  refine wpAny_bind ?_
  unfold Builtin.SmallTypes.ownedTupleIsFree
  refine wpAny_bind (wpAny_field hz rfl (x := .none) rfl (wpAny_pure ?_))
  simp only [if_true]
  refine wpAny_bind (wpAny_rule ?_)
  refine wpAny_bind (wpAny_field hz rfl (x := .ref TO) rfl ?_)
  refine wpAny_bind (wpAny_setField_rec hz (by simp) fun h₁ hz₁ hs₁ => ?_)
  replace hz₁ : IsZipS h₁ z TI TO .ellipsis := hz₁
  refine wpAny_bind ?_
  simp only [List.zipIdx_cons, List.zipIdx_nil, List.forIn_cons, List.forIn_nil]
  refine wpAny_bind (wpAny_bind (wpAny_onRaise ?_))
  show wpAny _ _ (Builtin.SmallTypes.nextOrEnd (.ref i1)) _ _ _
  refine nextOrEnd_end hh (h1.extBut hs₁.extBut D.i1z) (hl1.extBut hs₁.extBut D.l1z) hx fun h₂ hs₂ => ?_
  have hz₂ : IsZipS h₂ z TI TO .ellipsis := hs₂ _ _ D.i1z.symm hz₁
  refine wpAny_bind (wpAny_setField_rec hz₂ (by simp) fun h₃ _ hs₃ => ?_)
  refine wpAny_bind (wpAny_bind ?_)
  show wpAny _ _ (forIn [(Value.ref i2, 1)] PUnit.unit _) _ _ _
  rw [List.forIn_cons]
  refine wpAny_bind ?_
  show wpAny _ _ (Builtin.SmallTypes.nextOrEnd (.ref i2) >>= _) _ _ _
  refine wpAny_bind (nextOrEnd_end hh (((h2.extBut hs₁.extBut D.i2z).at fun o e => hs₂ _ o D.i12.symm e).extBut hs₃.extBut D.i2z) (((hl2.extBut hs₁.extBut D.l2z).at fun o e => hs₂ _ o D.l2i1 e).extBut hs₃.extBut D.l2z) hy fun h₄ hs₄ => ?_)
  refine wpAny_pure ?_
  show wpAny _ _ (forIn [] _ _) _ _ _
  rw [List.forIn_nil]
  refine wpAny_pure ?_
  refine wpAny_bind (wpAny_rule ?_)
  unfold Builtin.SmallTypes.stopIteration
  refine wpAny_bind ?_
  simp only [newExc, newTuple]
  refine wpAny_bind (wpAny_newObj_type ?_ (by size_fits))
  refine wpAny_bind (m := firstArgMember _ _) (wpAny_of_eq (a := Value.none) (by first | rfl | (simp only [firstArgMember]; rfl)) ?_)
  refine wpAny_newObj_type ?_ (by size_fits)
  simp only [raiseNew]
  refine wpAny_bind (wpAny_handled ?_)
  rw [hh]
  refine wpAny_bind (wpAny_pure (wpAny_throw ?_))
  exact hE _ _ (fun c o c1 _ c3 c4 x => Heap.get?_push_of_some _ (Heap.get?_push_of_some _ (hs₄ _ _ c4 (hs₃.extBut _ _ c1 (hs₂ _ _ c3 (hs₁.extBut _ _ c1 x)))))) ⟨_, Heap.get?_push_size _ rfl, rfl⟩
theorem pyNext_zipS_item {z TI TO i1 i2 l1 l2 : Addr} {k1 k2 : Nat} {xs ys : Array Value} {x y a b : Value} {Q : Option Value → Shared → Prop} (D : ZipApart z TI TO i1 i2 l1 l2)
    (hz : IsZipS s.heap z TI TO .none) (hTI : IsPair s.heap TI (.ref i1) (.ref i2)) (hTO : IsPair s.heap TO a b)
    (h1 : s.heap.IsTupleIter i1 l1 k1) (h2 : s.heap.IsTupleIter i2 l2 k2) (hl1 : s.heap.IsTuple l1 xs) (hl2 : s.heap.IsTuple l2 ys) (hx : xs[k1]? = some x) (hy : ys[k2]? = some y)
    (hQ : ∀ h', IsZipS h' z TI TO (rawInt s.heap.objs.size) → IsPair h' TO x y → h'.IsTupleIter i1 l1 (k1 + 1) → h'.IsTupleIter i2 l2 (k2 + 1) → IsPair h' s.heap.objs.size x y → h'.objs.size = s.heap.objs.size + 1 →
      (∀ c o, c ≠ z → c ≠ TO → c ≠ i1 → c ≠ i2 → s.heap.get? c = some o → h'.get? c = some o) → Q (some (.ref s.heap.objs.size)) { s with heap := h' }) :
    wpAny (model prog w) A (pyNext (.ref z)) Q E s := by
  have hT : s.TypeIs (.ref z) "zip" := ⟨_, hz, rfl⟩
  unfold pyNext
  exact wpAny_bind (wpAny_attempt (wpAny_callSpecial?_slot (name := Str.ofString "__next__") hT F.slot_zip_next
    (wpAny_call_entry F.slot_zip_next hT F.entry_zip_next
      (zipS_next_item D hz hTI hTO h1 h2 hl1 hl2 hx hy fun h' a1 a2 a3 a4 a5 a6 a7 => wpAny_pure (hQ h' a1 a2 a3 a4 a5 a6 a7)) (F.args_zip_next_1 _))))
theorem pyNext_zipS_end {z TI TO i1 i2 l1 l2 : Addr} {k1 k2 : Nat} {xs ys : Array Value} {a b : Value} {Q : Option Value → Shared → Prop} (hh : A.handled = none) (D : ZipApart z TI TO i1 i2 l1 l2)
    (hz : IsZipS s.heap z TI TO .none) (hTI : IsPair s.heap TI (.ref i1) (.ref i2)) (hTO : IsPair s.heap TO a b)
    (h1 : s.heap.IsTupleIter i1 l1 k1) (h2 : s.heap.IsTupleIter i2 l2 k2) (hl1 : s.heap.IsTuple l1 xs) (hl2 : s.heap.IsTuple l2 ys) (hx : xs[k1]? = none) (hy : ys[k2]? = none)
    (hQ : ∀ h', (∀ c o, c ≠ z → c ≠ TO → c ≠ i1 → c ≠ i2 → s.heap.get? c = some o → h'.get? c = some o) → Q none { s with heap := h' }) : wpAny (model prog w) A (pyNext (.ref z)) Q E s := by
  have hT : s.TypeIs (.ref z) "zip" := ⟨_, hz, rfl⟩
  unfold pyNext
  refine wpAny_bind (wpAny_attempt (wpAny_callSpecial?_slot (name := Str.ofString "__next__") hT F.slot_zip_next
    (wpAny_call_entry F.slot_zip_next hT F.entry_zip_next (zipS_next_end hh D hz hTI hTO h1 h2 hl1 hl2 hx hy fun h' e hk he => ?_) (F.args_zip_next_1 _))))
  obtain ⟨o, ho, hc⟩ := he
  refine wpAny_bind (wpAny_isInstance (T := "StopIteration") (b := true) ⟨o, ho, hc⟩ isSubtype_stop ?_)
  exact wpAny_pure (hQ _ hk)
theorem go_zipS {elts : List Expr} {x1} {pos : Pos} {z TI TO T : Addr} {Q : Unit → Shared → Prop} (hz : IsZipS s.heap z TI TO (rawInt T))
    (hQ : ∀ h', IsZipS h' z TI TO .none → Heap.SameBut z s.heap h' → Q () { s with heap := h' }) :
    wpAny (model prog w) A (letOwnedTupleGo (.Tuple elts x1 pos) (.ref z) (.ref T)) Q E s := by
  unfold letOwnedTupleGo
  refine wpAny_bind (wpAny_load hz ?_)
  show wpAny _ _ (if (["enumerate", "zip", "dict_itemiterator", "dict_reverseitemiterator", "odict_iterator", "itertools.zip_longest", "itertools.pairwise"].contains "zip" &&
      (#[rawInt T, .bool false, .bool true, .ref TI, .ref TO] : Array Value)[0]? == some (rawInt T)) = true then _ else _) Q E s
  rw [if_pos (by simp)]
  refine wpAny_bind (wpAny_rule ?_)
  show wpAny _ _ (setField (.ref z) 0 .none) Q E s
  exact wpAny_setField_rec hz (by simp) fun h' hz' hs' => hQ h' hz' hs'
theorem pyIter_zipS {z TI TO : Addr} {f0 : Value} {Q : Value → Shared → Prop} (hz : IsZipS s.heap z TI TO f0) (h : Q (.ref z) s) : wpAny (model prog w) A (pyIter (.ref z)) Q E s := by
  have hT : s.TypeIs (.ref z) "zip" := ⟨_, hz, rfl⟩
  refine wpAny_pyIter_slot hT F.slot_zip_iter (wpAny_call_entry F.slot_zip_iter hT F.entry_zip_iter ?_ (F.args_zip_iter_1 _))
  show wpAny _ _ (ret (.ref z)) _ _ s
  exact wpAny_pure ⟨_, rfl, "zip", _, hT, F.slot_zip_next.lookup, h⟩
end
abbrev zipSH5 (h : Heap) (l1 l2 : Addr) : Heap := (RZ.zipTH4 h l1 l2).push { cls := .type "zip", data := .fields #[.none, .bool false, .bool true, .ref (RZ.zipTH2 h l1 l2).objs.size, .ref (RZ.zipTH3 h l1 l2).objs.size] }
theorem meets_zipS_new (l1 l2 : Addr) (xs ys : Array Value) :
    Meets (Builtin.«zip.__new__» ⟨[.type "zip", .ref l1, .ref l2], [(Str.ofString "strict", .bool true)]⟩) (fun _ R s => s.heap.IsTuple l1 xs ∧ s.heap.IsTuple l2 ys ∧
      R (.ok (.ret (.ref (RZ.zipTH4 s.heap l1 l2).objs.size))) { s with heap := zipSH5 s.heap l1 l2 }) :=
  .of_wp fun prog w A R s h => by
    obtain ⟨hp, g, d, tk, os⟩ := s; obtain ⟨hl1, hl2, h⟩ := h
    have hsub := sub_zip
    have hL1 : Heap.IsTuple (Shared.heap ⟨hp, g, d, tk, os⟩) l1 xs := hl1
    have hL2 : Heap.IsTuple (Shared.heap ⟨hp.push { cls := .type "tuple_iterator", data := .fields #[.ref l1, .int 0 0] }, g, d, tk, os⟩) l2 ys := Heap.IsTuple.push hl2 _
    have hne : (Str.ofString "strict" != Str.ofString "strict") = false := by decide
    wp_walk using wpAny_pyIter_tuple hL1, wpAny_pyIter_tuple hL2
    exact ⟨_, rfl, h⟩
theorem typeCall_zipS (a b v : Value) : checkTypeCall "zip" ⟨[a, b], [(Str.ofString "strict", v)]⟩ = pure () := by kernel_rfl
theorem newCall_zipS (a b v : Value) : checkBuiltinCall "zip.__new__" ⟨[.type "zip", a, b], [(Str.ofString "strict", v)]⟩ = pure () := by kernel_rfl
theorem args_object_init_zipS (obj a b v : Value) : argsOk "object.__init__" ⟨[obj, a, b], [(Str.ofString "strict", v)]⟩ := by unfold argsOk; kernel_rfl
section
variable {prog : Program} {w : World} {A : Around} {E : Value → Shared → Prop} {s : Shared}
theorem call_zipS {l1 l2 : Addr} {xs ys : Array Value} {Q : Value → Shared → Prop} (hl1 : s.heap.IsTuple l1 xs) (hl2 : s.heap.IsTuple l2 ys)
    (h : ∀ h', IsZipS h' (s.heap.objs.size + 4) (s.heap.objs.size + 2) (s.heap.objs.size + 3) .none → IsPair h' (s.heap.objs.size + 2) (.ref s.heap.objs.size) (.ref (s.heap.objs.size + 1)) →
      IsPair h' (s.heap.objs.size + 3) .none .none → h'.IsTupleIter s.heap.objs.size l1 0 → h'.IsTupleIter (s.heap.objs.size + 1) l2 0 → h'.objs.size = s.heap.objs.size + 5 →
      (∀ c o, s.heap.get? c = some o → h'.get? c = some o) → Q (.ref (s.heap.objs.size + 4)) { s with heap := h' }) :
    wpAny (model prog w) A (call (.type "zip") [.ref l1, .ref l2] [(Str.ofString "strict", .bool true)]) Q E s := by
  refine callType_newKw F.called_zip (by decide) (typeCall_zipS _ _ _) (newCall_zipS _ _ _) (fun obj => args_object_init_zipS obj _ _ _) F.entry_zip_new
    (meets_zipS_new l1 l2 xs ys) ⟨hl1, hl2, ?_⟩
  have z1 : (RZ.zipTH1 s.heap l1).objs.size = s.heap.objs.size + 1 := Heap.size_push ..
  have z2 : (RZ.zipTH2 s.heap l1 l2).objs.size = s.heap.objs.size + 2 := by rw [Heap.size_push, z1]
  have z3 : (RZ.zipTH3 s.heap l1 l2).objs.size = s.heap.objs.size + 3 := by rw [Heap.size_push, z2]
  have z4 : (RZ.zipTH4 s.heap l1 l2).objs.size = s.heap.objs.size + 4 := by rw [Heap.size_push, z3]
  have z5 : (zipSH5 s.heap l1 l2).objs.size = s.heap.objs.size + 5 := by rw [Heap.size_push, z4]
  have g5 : (zipSH5 s.heap l1 l2).get? (RZ.zipTH4 s.heap l1 l2).objs.size = some _ := Heap.get?_push_size _ rfl
  have g4 : (zipSH5 s.heap l1 l2).get? (RZ.zipTH3 s.heap l1 l2).objs.size = some _ := Heap.get?_push_of_some _ (Heap.get?_push_size _ rfl)
  have g3 : (zipSH5 s.heap l1 l2).get? (RZ.zipTH2 s.heap l1 l2).objs.size = some _ := Heap.get?_push_of_some _ (Heap.get?_push_of_some _ (Heap.get?_push_size _ rfl))
  have g2 : (zipSH5 s.heap l1 l2).get? (RZ.zipTH1 s.heap l1).objs.size = some _ := Heap.get?_push_of_some _ (Heap.get?_push_of_some _ (Heap.get?_push_of_some _ (Heap.get?_push_size _ rfl)))
  have g1 : (zipSH5 s.heap l1 l2).get? s.heap.objs.size = some _ := Heap.get?_push_of_some _ (Heap.get?_push_of_some _ (Heap.get?_push_of_some _ (Heap.get?_push_of_some _ (Heap.get?_push_size _ rfl))))
  show _ ∧ _
  rw [z2, z3, z4] at g5
  rw [z1, z2] at g3
  rw [z3] at g4
  rw [z1] at g2
  rw [z4]
  exact ⟨⟨_, g5, rfl⟩, h _ g5 g3 g4 ⟨_, g1, rfl, rfl⟩ ⟨_, g2, rfl, rfl⟩ z5 fun c o x =>
    Heap.get?_push_of_some _ (Heap.get?_push_of_some _ (Heap.get?_push_of_some _ (Heap.get?_push_of_some _ (Heap.get?_push_of_some _ x))))⟩
end
end Wc
set_option maxRecDepth 100000
set_option maxHeartbeats 4000000
/-! W15: for over zip(t, u, strict=True), over enumerate(t), t and u tuples; walks. -/
namespace Wc
open PySem PySem.Spec PyProof.Rows L2 RZ
open PySem.AutoSeq1 (wpAny_loadPart')

/-! ### enumerate(tuple) -/
theorem drawsTuple {prog : Program} {w : World} {A : Around} (hh : A.handled = none) (it l : Addr) (hne : l ≠ it) (items : Array Value) :
    Draws prog w A it [it, l] items.size (fun i v => items[i]? = some v) (fun i h => h.IsTupleIter it l i ∧ h.IsTuple l items) where
  live := fun _ _ st => let ⟨o, ho, _⟩ := st.1; ⟨o, ho⟩
  frame := fun _ _ _ st hk => ⟨st.1.at fun o e => hk it (by simp) o e, st.2.at fun o e => hk l (by simp) o e⟩
  item := fun i s Q E hi st hQ => by
    refine nextOf_tuple_item st.1 st.2 (x := items[i]) (by simp [hi]) fun h' hit' hs' => ?_
    exact hQ _ h' s.toks (by simp [hi]) ⟨hit', st.2.extBut hs'.extBut hne⟩ hs'
  done := fun s Q E st hE => nextOf_tuple_end hh st.1 st.2 (by simp) hE
theorem meets_enumerate_newT (l : Addr) (items : Array Value) (n : Nat) (dct : Option Addr) (sl : Array (Option Value)) :
    Meets (Builtin.«enumerate.__new__» ⟨[.type "enumerate", .ref l], []⟩) (fun _ R s => s.heap.get? l = some { cls := .type "tuple", dict := dct, data := .seq items n, slots := sl } ∧
      R (.ok (.ret (.ref (s.heap.push { cls := .type "tuple_iterator", data := .fields #[.ref l, .int 0 0] }).objs.size)))
        { s with heap := (s.heap.push { cls := .type "tuple_iterator", data := .fields #[.ref l, .int 0 0] }).push { cls := .type "enumerate", data := .fields #[.none, .bool false, .ref s.heap.objs.size, rawInt 0, .none, .none] } }) :=
  .of_wp fun prog w A R s h => by
    obtain ⟨hp, g, d, tk, os⟩ := s; obtain ⟨hl, h⟩ := h
    have hsub := sub_enumerate
    have hL : Heap.IsTuple (Shared.heap ⟨hp, g, d, tk, os⟩) l items := ⟨_, hl, rfl, n, rfl⟩
    wp_walk using wpAny_loadPart' hl
    refine wpAny_stack_any fun st => wpAny_pure ?_
    split
    · rename_i c _ _ _ _ _
      cases (c == Value.type "enumerate")
      · wp_walk using wpAny_loadPart' hl, wpAny_pyIter_tuple hL
        exact ⟨_, rfl, h⟩
      · wp_walk using wpAny_loadPart' hl, wpAny_pyIter_tuple hL
        exact ⟨_, rfl, h⟩
    · wp_walk using wpAny_loadPart' hl, wpAny_pyIter_tuple hL
      exact ⟨_, rfl, h⟩
section
variable {prog : Program} {w : World} {A : Around} {E : Value → Shared → Prop} {s : Shared}
theorem call_enumerate_tuple {l : Addr} {items : Array Value} {Q : Value → Shared → Prop} (hL : s.heap.IsTuple l items)
    (h : ∀ h', IsEnum h' (s.heap.objs.size + 1) s.heap.objs.size 0 .none → h'.IsTupleIter s.heap.objs.size l 0 → h'.objs.size = s.heap.objs.size + 2 →
      (∀ b o, s.heap.get? b = some o → h'.get? b = some o) → Q (.ref (s.heap.objs.size + 1)) { s with heap := h' }) :
    wpAny (model prog w) A (call (.type "enumerate") [.ref l]) Q E s := by
  obtain ⟨⟨c, dct, dt, sl⟩, hl, hc, n, hd⟩ := hL
  replace hc : c = .type "tuple" := hc
  replace hd : dt = .seq items n := hd
  subst hc hd
  refine callType_new F.called_enumerate (by decide) (F.typeCall_enumerate_1 _) (F.newCall_enumerate_1 _) (fun obj => F.args_object_init_2 obj _) F.entry_enumerate_new
    (meets_enumerate_newT l items n dct sl) ⟨hl, ?_⟩
  have hz : (s.heap.push { cls := .type "tuple_iterator", data := .fields #[.ref l, .int 0 0] }).objs.size = s.heap.objs.size + 1 := Heap.size_push ..
  show _ ∧ _
  rw [hz]
  have he : IsEnum ((s.heap.push { cls := .type "tuple_iterator", data := .fields #[.ref l, .int 0 0] }).push
      { cls := .type "enumerate", data := .fields #[.none, .bool false, .ref s.heap.objs.size, rawInt 0, .none, .none] }) (s.heap.objs.size + 1) s.heap.objs.size 0 .none := by
    have := Heap.get?_push_size (s.heap.push { cls := .type "tuple_iterator", data := .fields #[.ref l, .int 0 0] })
      (o := { cls := .type "enumerate", data := .fields #[.none, .bool false, .ref s.heap.objs.size, rawInt 0, .none, .none] }) rfl
    rw [hz] at this; exact this
  refine ⟨⟨_, he, rfl⟩, h _ he ⟨_, Heap.get?_push_of_some _ (Heap.get?_push_size _ rfl), rfl, rfl⟩ (by rw [Heap.size_push, hz]) fun b o x => Heap.get?_push_of_some _ (Heap.get?_push_of_some _ x)⟩
end
/-- the tuple at a as it stands at each turn, its items in new pairs with their places -/
def IteT (K : PySem.W.Frag) (a : Addr) : It :=
  ⟨fun i H => ∃ (xs : List V) (x : V), SqT K H a xs ∧ xs[i]? = some x, fun i H v H' => ∃ T x, v = .ref T ∧ H T = none ∧ H' = upd H T (.tup [.int (i : Nat), x]) ∧ ∀ xs, SqT K H a xs → xs[i]? = some x, fun i H => ∃ xs : List V, SqT K H a xs ∧ xs.length ≤ i⟩
theorem turn_enumT {P : Program} {w : World} {K : PySem.W.Frag} {elts : List Expr} {kk : Nat} {tpos : Pos} (a e it : Addr) (hai : a ≠ it) (hae : a ≠ e) :
    Turn P w K (.Tuple elts kk tpos) (IteT K a) [e, it] e (fun i h => (∃ old, IsEnum h e it ((i : Nat) : Int) old) ∧ h.IsTupleIter it a i ∧ e ≠ it) where
  mem := by simp
  obj := fun i h st b hb => by
    obtain ⟨⟨old, he⟩, ⟨o, ho, hc, hd⟩, _⟩ := st
    have e' : b = e ∨ b = it := by simpa using hb
    rcases e' with z | z
    · rw [z]; exact ⟨_, he, fun v q => nomatch q⟩
    · rw [z]; exact ⟨o, ho, fun v q => by rw [hd] at q; cases q⟩
  keep := fun i h h' st k => let ⟨⟨old, he⟩, hi, hne⟩ := st; ⟨⟨old, k e (by simp) _ he⟩, hi.at fun o q => k it (by simp) o q, hne⟩
  item := by
    intro X hP hw hK hc i pins s σ H E I hf st hg
    subst hP hw hK
    obtain ⟨⟨old, he⟩, hit, hne⟩ := st
    obtain ⟨xs, x, hq, hx⟩ := hg
    obtain ⟨its, rv, p, hz⟩ := I.tuple hq
    obtain ⟨u, hu, ru⟩ := rv.get hx
    have hel : e < s.heap.objs.size := Heap.lt_size he
    have hil : it < s.heap.objs.size := by obtain ⟨_, q, _⟩ := hit; exact Heap.lt_size q
    have hlt : i < its.toArray.size := by
      rw [List.size_toArray]
      exact (List.getElem?_eq_some_iff.mp hu).1
    refine wpAny_pyNext_enum_itemD (drawsTuple (prog := X.prog) (w := X.w) (A := X.A.in1) (I.ok.hd hc) it a hai its.toArray) he ⟨hit, p⟩ hlt hne (by simp [hne, Ne.symm hae]) fun y h' tk hP ho hst' hT hsz hk => ?_
    have hy : y = u := by
      have q : its[i]? = some y := by simpa using hP
      rw [hu] at q
      exact (Option.some.inj q).symm
    subst hy
    refine ⟨_, rfl, wpAny_letOwnedTupleGo_enum (s := { s with heap := h', toks := tk + 1 }) ho fun h'' he' sb => ?_⟩
    have hT2 : h''.get? s.heap.objs.size = some { cls := .type "tuple", data := .seq #[.int i tk, y] } := (sb.2 _ (Nat.ne_of_gt hel)).trans hT
    have new : ObjOk X.prog X.w (upd H s.heap.objs.size (.tup [.int (i : Nat), x])) h'' s.heap.objs.size (.tup [.int (i : Nat), x]) :=
      ⟨by show 2 ≤ sizeLine; decide, [.int i tk, y], .cons ⟨_, rfl⟩ (.cons ru .nil), ⟨_, hT2, rfl, _, rfl⟩⟩
    have I1 : Inv X pins σ (upd H s.heap.objs.size (.tup [.int (i : Nat), x])) { s with heap := h'', toks := tk + 1 } :=
      I.turnedNew (ch := [e, it]) (fun b ob hb q => (sb.2 b (fun z => hb (by simp [z]))).trans (hk b ob (fun z => hb (by simp [z])) (fun z => hb (by simp [z])) q)) hf (Nat.le_refl _) new
    refine ⟨.ref s.heap.objs.size, _, I1, rfl, ⟨_, x, rfl, I.hok.fresh (Nat.le_refl _), rfl, fun ys hy => by rw [I.tuple_inj hy hq]; exact hx⟩, ⟨⟨y, ?_⟩, hst'.1.at fun o q => (sb.2 it (Ne.symm hne)).trans q, hne⟩, fun b hb => ?_⟩
    · have e1 : ((i + 1 : Nat) : Int) = (i : Int) + 1 := by omega
      rw [e1]; exact he'
    · have hb' : b < s.heap.objs.size := by
        have e' : b = e ∨ b = it := by simpa using hb
        rcases e' with z | z
        · rw [z]; exact hel
        · rw [z]; exact hil
      rw [upd_ne (Nat.ne_of_lt hb')]
      exact (hf b hb).1
  done := by
    intro X hP hw hK hc i pins s σ H E I hf st hg
    subst hP hw hK
    obtain ⟨⟨old, he⟩, hit, hne⟩ := st
    obtain ⟨xs, hq, hx⟩ := hg
    obtain ⟨its, rv, p, hz⟩ := I.tuple hq
    obtain ⟨f0, f1, f2, f3, f4, f5⟩ := hf it (by simp)
    have hl := rv.length
    have hT : s.TypeIs (.ref e) "enumerate" := ⟨_, he, rfl⟩
    unfold pyNext
    refine wpAny_bind (wpAny_attempt (wpAny_callSpecial?_slot (name := Str.ofString "__next__") hT F.slot_enumerate_next
      (wpAny_call_entry F.slot_enumerate_next hT F.entry_enumerate_next ?_ (F.args_enumerate_next_1 _))))
    show wpAny _ _ (field (.ref e) 2 >>= _) _ _ _
    refine wpAny_bind (wpAny_field he rfl (x := .ref it) rfl ?_)
    refine wpAny_bind (nextOf_tuple_end (i := i) (items := its.toArray) (I.ok.hd hc) hit p (by simp; omega) fun h' x he' hx' => ?_)
    obtain ⟨o, ho, hc'⟩ := hx'
    refine wpAny_bind (wpAny_isInstance (T := "StopIteration") (b := true) ⟨o, ho, hc'⟩ isSubtype_stop ?_)
    exact wpAny_pure ⟨rfl, I.turned (t' := s.toks) (fun b o hb q => he' b o hb q) f0 f1 f3 f4 f5⟩
  self := fun A i s Q E st h => let ⟨⟨_, he⟩, _⟩ := st; wpAny_pyIter_enum he h
def iEnumT (K : PySem.W.Frag) (ta : TA) : TI := fun σ H R => ta σ H fun vs H1 => ∃ a xs, vs = [.ref a] ∧ SqT K H1 a xs ∧ R (IteT K a) H1
theorem pi_enumT {X : Cx} {e : Expr} {ta : TA} {p pos tpos : Pos} {elts : List Expr} {kk : Nat} (hg : Gl X "enumerate") (hm : X.mg "enumerate" = none) (ha : PA X [e] ta) (hs : starEach [e] X.env = [(false, eval e X.env)] := by rfl) :
    PI X (.Tuple elts kk tpos) (.Call (.Name "enumerate" p) [e] [] pos) (iEnumT X.K ta) := by
  refine ⟨fun pins s σ H R I h => ?_⟩
  refine Call_ (ld_blt I hg hm boot_enumerate (PyProof.Rows.callWith_type1 (thn (ha.run pos pins s σ H _ I h) fun us s1 ⟨vs, H1, I1, r1, q1⟩ => ?_) hs rfl))
  obtain ⟨a, xs, ex, hq, q⟩ := q1
  subst ex
  cases r1 with
  | cons r rr =>
    cases rr
    cases r
    obtain ⟨its, rv, p', hz⟩ := I1.tuple hq
    obtain ⟨oa, hoa, _⟩ := id p'
    have hlt := Heap.lt_size hoa
    refine call_enumerate_tuple p' fun h' he hit hsz hk => wpAny_pyIter_enum he ?_
    have I2 : Inv X pins σ H1 { s1 with heap := h' } := I1.kept (t' := s1.toks) hk
    refine ⟨s1.heap.objs.size + 1, [s1.heap.objs.size + 1, s1.heap.objs.size], _, _, H1, rfl, I2, turn_enumT a (s1.heap.objs.size + 1) s1.heap.objs.size (Nat.ne_of_lt hlt) (Nat.ne_of_lt (Nat.lt_succ_of_lt hlt)), ⟨⟨.none, he⟩, hit, Nat.succ_ne_self _⟩, fun b hb => ?_, q⟩
    have e' : b = s1.heap.objs.size + 1 ∨ b = s1.heap.objs.size := by simpa using hb
    have hle : s1.heap.objs.size ≤ b := by
      rcases e' with z | z
      · rw [z]; exact Nat.le_add_right _ _
      · rw [z]; exact Nat.le_refl _
    exact I1.fpOk hle (I1.hok.fresh hle)
/-! ### zip(.., strict=True) -/
theorem callWith_typeK {M : Model} {A : Around} {E : Value → Shared → Prop} {s : Shared} {pos : Pos} {T : String} {first : List Value} {args : List (Bool × Sem Value)} {keywords : List (Option Str × Sem Value)} {Q : Value → Shared → Prop}
    (hplain : args.any (·.1) = false) (hkw : keywords.any (·.1.isNone) = false)
    (h : wpAny M A (evalArgs (.type T) true args keywords) (fun a s₁ => wpAny M A (call (.type T) (first ++ a.pos) a.kw) Q E s₁) E s) :
    wpAny M A (callWith pos (.type T) first args keywords) Q E s := by
  unfold callWith
  refine wpAny_bind (wpAny_holding (wpAny_mono h (fun a s₁ h₁ => wpAny_bind (wpAny_standAt ?_)) fun _ _ x => x))
  simp only [hplain, hkw, Bool.or_false]
  refine wpAny_bind (wpAny_pure ?_)
  exact wpAny_bind (wpAny_mono h₁ (fun r s₂ hr => wpAny_bind (wpAny_holding (wpAny_point (wpAny_pure hr)))) fun _ _ x => x)

def ItzS (K : PySem.W.Frag) (a b : Addr) : It := ⟨(ItzT K a b).go, (ItzT K a b).yld, fun i H => ∃ xs ys : List V, SqT K H a xs ∧ SqT K H b ys ∧ xs.length ≤ i ∧ ys.length ≤ i⟩
theorem turn_zipS {P : Program} {w : World} {K : PySem.W.Frag} {elts : List Expr} {kk : Nat} {tpos : Pos} {a b z TI TO i1 i2 : Addr} (D : ZipApart z TI TO i1 i2 a b) :
    Turn P w K (.Tuple elts kk tpos) (ItzS K a b) [z, TI, TO, i1, i2] z (fun i h => IsZipS h z TI TO .none ∧ IsPair h TI (.ref i1) (.ref i2) ∧ (∃ x y, IsPair h TO x y) ∧ h.IsTupleIter i1 a i ∧ h.IsTupleIter i2 b i) where
  mem := by simp
  obj := fun i h st c hc => by
    obtain ⟨hz, hTI, ⟨x, y, hTO⟩, ⟨o1, e1, _, d1⟩, ⟨o2, e2, _, d2⟩⟩ := st
    have e' : c = z ∨ c = TI ∨ c = TO ∨ c = i1 ∨ c = i2 := by simpa using hc
    rcases e' with q | q | q | q | q
    · rw [q]; exact ⟨_, hz, fun v q => nomatch q⟩
    · rw [q]; exact ⟨_, hTI, fun v q => nomatch q⟩
    · rw [q]; exact ⟨_, hTO, fun v q => nomatch q⟩
    · rw [q]; exact ⟨o1, e1, fun v q => by rw [d1] at q; cases q⟩
    · rw [q]; exact ⟨o2, e2, fun v q => by rw [d2] at q; cases q⟩
  keep := fun i h h' st k => by
    obtain ⟨hz, hTI, ⟨x, y, hTO⟩, h1, h2⟩ := st
    exact ⟨k z (by simp) _ hz, k TI (by simp) _ hTI, ⟨x, y, k TO (by simp) _ hTO⟩, h1.at fun o q => k i1 (by simp) o q, h2.at fun o q => k i2 (by simp) o q⟩
  item := by
    intro X hP hw hK hc i pins s σ H E I hf st hg
    subst hP hw hK
    obtain ⟨hz, hTI, ⟨x0, y0, hTO⟩, h1, h2⟩ := st
    obtain ⟨xs, ys, x, y, hqx, hqy, hx, hy⟩ := hg
    obtain ⟨its, rv, p, _⟩ := I.tuple hqx
    obtain ⟨its2, rv2, p2, _⟩ := I.tuple hqy
    obtain ⟨u, hu, ru⟩ := rv.get hx
    obtain ⟨u2, hu2, ru2⟩ := rv2.get hy
    have hzl : z < s.heap.objs.size := Heap.lt_size hz
    refine pyNext_zipS_item D hz hTI hTO h1 h2 p p2 (x := u) (y := u2) (by simpa using hu) (by simpa using hu2) fun h' z' TO' h1' h2' hT hsz hk => ?_
    refine ⟨_, rfl, go_zipS (s := { s with heap := h' }) z' fun h'' z'' sb => ?_⟩
    have hT2 : h''.get? s.heap.objs.size = some { cls := .type "tuple", data := .seq #[u, u2] } := (sb.2 _ (Nat.ne_of_gt hzl)).trans hT
    have new : ObjOk X.prog X.w (upd H s.heap.objs.size (.tup [x, y])) h'' s.heap.objs.size (.tup [x, y]) :=
      ⟨by show 2 ≤ sizeLine; decide, [u, u2], .cons ru (.cons ru2 .nil), ⟨_, hT2, rfl, _, rfl⟩⟩
    have I1 : Inv X pins σ (upd H s.heap.objs.size (.tup [x, y])) { s with heap := h'' } :=
      I.turnedNew (t' := s.toks) (ch := [z, TI, TO, i1, i2]) (fun c o hb q => (sb.2 c (fun q' => hb (by simp [q']))).trans (hk c o (fun q' => hb (by simp [q'])) (fun q' => hb (by simp [q'])) (fun q' => hb (by simp [q'])) (fun q' => hb (by simp [q'])) q)) hf (Nat.le_refl _) new
    refine ⟨.ref s.heap.objs.size, _, I1, rfl, ⟨_, x, y, rfl, I.hok.fresh (Nat.le_refl _), rfl, fun l hl => by rw [I.tuple_inj hl hqx]; exact hx, fun l hl => by rw [I.tuple_inj hl hqy]; exact hy⟩, ⟨z'', ?_, ⟨u, u2, ?_⟩, ?_, ?_⟩, fun c hcm => ?_⟩
    · exact (sb.2 _ D.TIz).trans (hk _ _ D.TIz D.TITO D.TIi1 D.TIi2 hTI)
    · exact (sb.2 _ D.TOz).trans TO'
    · exact h1'.at fun o q => (sb.2 _ D.i1z).trans q
    · exact h2'.at fun o q => (sb.2 _ D.i2z).trans q
    · have hlt : c < s.heap.objs.size := by
        have e' : c = z ∨ c = TI ∨ c = TO ∨ c = i1 ∨ c = i2 := by simpa using hcm
        rcases e' with q | q | q | q | q
        · rw [q]; exact hzl
        · rw [q]; exact Heap.lt_size hTI
        · rw [q]; exact Heap.lt_size hTO
        · rw [q]; obtain ⟨_, e1, _⟩ := h1; exact Heap.lt_size e1
        · rw [q]; obtain ⟨_, e2, _⟩ := h2; exact Heap.lt_size e2
      rw [upd_ne (Nat.ne_of_lt hlt)]
      exact (hf c hcm).1
  done := by
    intro X hP hw hK hc i pins s σ H E I hf st hg
    subst hP hw hK
    obtain ⟨hz, hTI, ⟨x0, y0, hTO⟩, h1, h2⟩ := st
    obtain ⟨xs, ys, hqx, hqy, l1', l2'⟩ := hg
    obtain ⟨its, rv, p, _⟩ := I.tuple hqx
    obtain ⟨its2, rv2, p2, _⟩ := I.tuple hqy
    have l1 := rv.length
    have l2 := rv2.length
    exact pyNext_zipS_end (k1 := i) (k2 := i) (I.ok.hd hc) D hz hTI hTO h1 h2 p p2 (by simp; omega) (by simp; omega) fun h' hk => ⟨rfl, I.turnedL (t' := s.toks) (ch := [z, TI, TO, i1, i2]) (fun c o hb q =>
      hk c o (fun q' => hb (by simp [q'])) (fun q' => hb (by simp [q'])) (fun q' => hb (by simp [q'])) (fun q' => hb (by simp [q'])) q) hf⟩
  self := fun A i s Q E st h => pyIter_zipS st.1 h
def iZipS (K : PySem.W.Frag) (ta : TA) (te : TE) : TI := fun σ H R => ta σ H fun vs H1 => te σ H1 fun v H2 => ∃ a b xs ys, vs = [.ref a, .ref b] ∧ v = .bl true ∧ SqT K H2 a xs ∧ SqT K H2 b ys ∧ R (ItzS K a b) H2
theorem pi_zipS {X : Cx} {e e2 ek : Expr} {ta : TA} {te : TE} {p kpos pos tpos : Pos} {elts : List Expr} {kk : Nat} (hg : Gl X "zip") (hm : X.mg "zip" = none) (ha : PA X [e, e2] ta) (hk : PE X ek te)
    (hs : starEach [e, e2] X.env = (false, eval e X.env) :: starEach [e2] X.env := by rfl) (hpl : (backTo pos (starEach [e, e2] X.env)).any (·.1) = false := by rfl) :
    PI X (.Tuple elts kk tpos) (.Call (.Name "zip" p) [e, e2] [⟨some "strict", ek, kpos⟩] pos) (iZipS X.K ta te) := by
  refine ⟨fun pins s σ H R I h => ?_⟩
  refine wpAny_Call_Name_kw (ld_blt I hg hm PyProof.Rows.boot_zip ?_)
  refine callWith_typeK hpl (by rfl) ?_
  refine PyProof.Rows.evalArgs_kw2 (by rfl) (thn (ha.run pos pins s σ H _ I h) fun us s1 ⟨vs, H1, I1, r1, q1⟩ => ?_) hs
  refine PyProof.Rows.kwAll_cons (thn (hk.run pins s1 σ H1 _ I1 q1) fun v s2 ⟨y, H2, I2, r2, q2⟩ => PyProof.Rows.kwAll_nil ?_)
  obtain ⟨a, b, xs, ys, rfl, rfl, hqx, hqy, q⟩ := q2
  obtain rfl : v = .bool true := r2
  cases r1 with
  | cons r rr =>
    cases rr with
    | cons r' rr =>
      cases rr
      cases r
      cases r'
      have fresh5 : ∀ c, c ∈ [s2.heap.objs.size + 4, s2.heap.objs.size + 2, s2.heap.objs.size + 3, s2.heap.objs.size, s2.heap.objs.size + 1] → FpOk X pins H2 c := fun c hcm => by
        have e' : c = s2.heap.objs.size + 4 ∨ c = s2.heap.objs.size + 2 ∨ c = s2.heap.objs.size + 3 ∨ c = s2.heap.objs.size ∨ c = s2.heap.objs.size + 1 := by simpa using hcm
        have hle : s2.heap.objs.size ≤ c := by
          rcases e' with z | z | z | z | z
          · rw [z]; exact Nat.le_add_right _ _
          · rw [z]; exact Nat.le_add_right _ _
          · rw [z]; exact Nat.le_add_right _ _
          · rw [z]; exact Nat.le_refl _
          · rw [z]; exact Nat.le_add_right _ _
        exact I2.fpOk hle (I2.hok.fresh hle)
      obtain ⟨its, rv, p1, _⟩ := I2.tuple hqx
      obtain ⟨its2, rv2, p2, _⟩ := I2.tuple hqy
      obtain ⟨o1, ho1, _⟩ := id p1
      obtain ⟨o2, ho2, _⟩ := id p2
      refine call_zipS (show s2.heap.IsTuple a its.toArray from p1) (show s2.heap.IsTuple b its2.toArray from p2) fun h' hz hTI hTO h1 h2 hsz hk => pyIter_zipS hz ?_
      have I3 : Inv X pins σ H2 { s2 with heap := h' } := I2.kept (t' := s2.toks) hk
      exact ⟨s2.heap.objs.size + 4, [s2.heap.objs.size + 4, s2.heap.objs.size + 2, s2.heap.objs.size + 3, s2.heap.objs.size, s2.heap.objs.size + 1], _, _, H2, rfl, I3, turn_zipS (PySem.W.ktu_apart s2.heap.objs.size a b (Heap.lt_size ho1) (Heap.lt_size ho2)), ⟨hz, hTI, ⟨_, _, hTO⟩, h1, h2⟩, fresh5, q⟩
/-! ### walks -/
section
variable {K : PySem.W.Frag} {a b : Addr} {xs ys : List V}
theorem walk_enumT : Walk (IteT K a) xs.length (fun H => SqT K H a xs) (YPair (fun i => some (.int (i : Nat))) (fun i => xs[i]?)) where
  goes := fun i H hi h => ⟨xs, xs[i], h, List.getElem?_eq_getElem hi⟩
  stops := fun H h => ⟨xs, h, Nat.le_refl _⟩
  yields := fun i H x H' hi h ⟨T, y, e1, e2, e3, f⟩ => ⟨T, .int (i : Nat), y, e1, e2, e3, rfl, f xs h⟩
theorem walk_zipT {n : Nat} (hn : n = min xs.length ys.length) : Walk (ItzT K a b) n (fun H => SqT K H a xs ∧ SqT K H b ys) (YPair (fun i => xs[i]?) (fun i => ys[i]?)) where
  goes := fun i H hi h => ⟨xs, ys, _, _, h.1, h.2, List.getElem?_eq_getElem (by omega), List.getElem?_eq_getElem (by omega)⟩
  stops := fun H h => ⟨xs, ys, h.1, h.2, by omega⟩
  yields := fun i H x H' hi h ⟨T, y, z, e1, e2, e3, f, g⟩ => ⟨T, y, z, e1, e2, e3, f xs h.1, g ys h.2⟩
theorem walk_zipS (hl : xs.length = ys.length) : Walk (ItzS K a b) xs.length (fun H => SqT K H a xs ∧ SqT K H b ys) (YPair (fun i => xs[i]?) (fun i => ys[i]?)) where
  goes := fun i H hi h => ⟨xs, ys, _, _, h.1, h.2, List.getElem?_eq_getElem (by omega), List.getElem?_eq_getElem (by omega)⟩
  stops := fun H h => ⟨xs, ys, h.1, h.2, Nat.le_refl _, by omega⟩
  yields := fun i H x H' hi h ⟨T, y, z, e1, e2, e3, f, g⟩ => ⟨T, y, z, e1, e2, e3, f xs h.1, g ys h.2⟩
end
end Wc
set_option maxRecDepth 100000
set_option maxHeartbeats 4000000
/-! W16: dict(zip(t, u)), t and u tuples, keys texts (KE.KDictZip's plan, turned to tuples). -/
namespace Wc
open PySem PySem.Spec PyProof.Rows L2 RZ
section
variable {prog : Program} {w : World} {A : Around} {E : Value → Shared → Prop} {s : Shared}
theorem zipT_item_held {z TI TO T i1 i2 l1 l2 : Addr} {f : Bool} {oT : Obj} {k1 k2 : Nat} {xs ys : Array Value} {x y : Value} {Q : Value → Shared → Prop} (D : ZipApart z TI TO i1 i2 l1 l2)
    (hz : IsZipHeld s.heap z TI TO T f) (hT : s.heap.get? T = some oT) (hTI : IsPair s.heap TI (.ref i1) (.ref i2))
    (h1 : s.heap.IsTupleIter i1 l1 k1) (h2 : s.heap.IsTupleIter i2 l2 k2) (hl1 : s.heap.IsTuple l1 xs) (hl2 : s.heap.IsTuple l2 ys) (hx : xs[k1]? = some x) (hy : ys[k2]? = some y)
    (hQ : ∀ h', IsZipHeld h' z TI TO T true → h'.IsTupleIter i1 l1 (k1 + 1) → h'.IsTupleIter i2 l2 (k2 + 1) → IsPair h' s.heap.objs.size x y → h'.objs.size = s.heap.objs.size + 1 →
      (∀ c o, c ≠ z → c ≠ i1 → c ≠ i2 → s.heap.get? c = some o → h'.get? c = some o) → Q (.ref s.heap.objs.size) { s with heap := h' }) :
    wpAny (model prog w) A (Builtin.«zip.__next__» ⟨[.ref z], []⟩) (fun fin s' => ∃ v, fin = .done (.ret v) ∧ Q v s') E s := by
  show wpAny _ _ (field (.ref z) 2 >>= _) _ _ _
  refine wpAny_bind (wpAny_field hz rfl (x := .bool false) rfl ?_)
  show wpAny _ _ (field (.ref z) 3 >>= _) _ _ _
  refine wpAny_bind (wpAny_field hz rfl (x := .ref TI) rfl ?_)
  refine wpAny_bind (wpAny_seqItems hTI rfl ?_)
  show wpAny _ _ (Builtin.SmallTypes.ownedTupleIsFree (.ref z) >>= _) _ _ _
  refine wpAny_bind (wpAny_tupleHeld_zip hz hT fun h₁ hz₁ hs₁ => ?_)
  simp only [Bool.false_eq_true, if_false]
  refine wpAny_bind ?_
  rw [← Array.forIn_toList]
  simp only [List.forIn_cons, List.forIn_nil]
  refine wpAny_bind (wpAny_bind (wpAny_holding ?_))
  show wpAny _ _ (Builtin.SmallTypes.nextOf (.ref i1) >>= _) _ _ _
  refine wpAny_bind (nextOf_tuple_item (s := { s with heap := h₁ }) (h1.extBut hs₁.extBut D.i1z) (hl1.extBut hs₁.extBut D.l1z) hx fun h₂ h1₂ hs₂ => wpAny_pure ?_)
  refine wpAny_pure ?_
  refine wpAny_bind (wpAny_bind (wpAny_holding ?_))
  show wpAny _ _ (Builtin.SmallTypes.nextOf (.ref i2) >>= _) _ _ _
  refine wpAny_bind (nextOf_tuple_item (s := { s with heap := h₂ }) ((h2.extBut hs₁.extBut D.i2z).extBut hs₂.extBut D.i12.symm) ((hl2.extBut hs₁.extBut D.l2z).extBut hs₂.extBut D.l2i1) hy fun h₃ h2₃ hs₃ => wpAny_pure ?_)
  refine wpAny_pure (wpAny_pure ?_)
  show wpAny _ _ (newTuple [x, y] >>= _) _ _ _
  refine wpAny_bind (wpAny_newTuple ?_)
  have hsz : h₃.objs.size = s.heap.objs.size := by rw [hs₃.1, hs₂.1, hs₁.1]
  have hz₃ : IsZipHeld h₃ z TI TO T true := hs₃.extBut _ _ D.i2z.symm (hs₂.extBut _ _ D.i1z.symm hz₁)
  have hk : ∀ c o, c ≠ z → c ≠ i1 → c ≠ i2 → s.heap.get? c = some o → h₃.get? c = some o := fun c o c1 c2 c3 e => hs₃.extBut _ _ c3 (hs₂.extBut _ _ c2 (hs₁.extBut _ _ c1 e))
  have h1₃ : h₃.IsTupleIter i1 l1 (k1 + 1) := h1₂.extBut hs₃.extBut D.i12
  refine wpAny_pure ⟨_, rfl, ?_⟩
  show Q (.ref h₃.objs.size) _
  have hp : IsPair (h₃.push { cls := .type "tuple", data := .seq #[x, y] }) h₃.objs.size x y := Heap.get?_push_size _ rfl
  have hz4 : (h₃.push { cls := .type "tuple", data := .seq #[x, y] }).objs.size = h₃.objs.size + 1 := Heap.size_push ..
  rw [hsz] at hp hz4 ⊢
  exact hQ _ (Heap.get?_push_of_some _ hz₃) (h1₃.at fun o e => Heap.get?_push_of_some _ e) (h2₃.at fun o e => Heap.get?_push_of_some _ e) hp hz4 fun c o c1 c2 c3 e => Heap.get?_push_of_some _ (hk c o c1 c2 c3 e)

theorem zipT_end_held {z TI TO T i1 i2 l1 l2 : Addr} {f : Bool} {oT : Obj} {k1 k2 : Nat} {xs ys : Array Value} {Q : Fin → Shared → Prop} (hh : A.handled = none) (D : ZipApart z TI TO i1 i2 l1 l2)
    (hz : IsZipHeld s.heap z TI TO T f) (hT : s.heap.get? T = some oT) (hTI : IsPair s.heap TI (.ref i1) (.ref i2))
    (h1 : s.heap.IsTupleIter i1 l1 k1) (h2 : s.heap.IsTupleIter i2 l2 k2) (hl1 : s.heap.IsTuple l1 xs) (hl2 : s.heap.IsTuple l2 ys) (hend : xs[k1]? = none ∨ ys[k2]? = none)
    (hE : ∀ h' e, (∀ c o, c ≠ z → c ≠ i1 → c ≠ i2 → s.heap.get? c = some o → h'.get? c = some o) → (∃ o, h'.get? e = some o ∧ o.cls = .type "StopIteration") → E (.ref e) { s with heap := h' }) :
    wpAny (model prog w) A (Builtin.«zip.__next__» ⟨[.ref z], []⟩) Q E s := by
  show wpAny _ _ (field (.ref z) 2 >>= _) _ _ _
  refine wpAny_bind (wpAny_field hz rfl (x := .bool false) rfl ?_)
  show wpAny _ _ (field (.ref z) 3 >>= _) _ _ _
  refine wpAny_bind (wpAny_field hz rfl (x := .ref TI) rfl ?_)
  refine wpAny_bind (wpAny_seqItems hTI rfl ?_)
  show wpAny _ _ (Builtin.SmallTypes.ownedTupleIsFree (.ref z) >>= _) _ _ _
  refine wpAny_bind (wpAny_tupleHeld_zip hz hT fun h₁ hz₁ hs₁ => ?_)
  simp only [Bool.false_eq_true, if_false]
  refine wpAny_bind ?_
  rw [← Array.forIn_toList]
  simp only [List.forIn_cons, List.forIn_nil]
  refine wpAny_bind (wpAny_bind (wpAny_holding ?_))
  show wpAny _ _ (Builtin.SmallTypes.nextOf (.ref i1) >>= _) _ _ _
  cases hx : xs[k1]? with
  | none =>
    refine wpAny_bind (nextOf_tuple_end (s := { s with heap := h₁ }) hh (h1.extBut hs₁.extBut D.i1z) (hl1.extBut hs₁.extBut D.l1z) hx fun h₂ e hs₂ he => ?_)
    exact hE h₂ e (fun c o c1 c2 _ x => hs₂ _ _ c2 (hs₁.extBut _ _ c1 x)) he
  | some x =>
    have hy : ys[k2]? = none := by rcases hend with h | h; rw [hx] at h; cases h; exact h
    refine wpAny_bind (nextOf_tuple_item (s := { s with heap := h₁ }) (h1.extBut hs₁.extBut D.i1z) (hl1.extBut hs₁.extBut D.l1z) hx fun h₂ h1₂ hs₂ => wpAny_pure ?_)
    refine wpAny_pure ?_
    refine wpAny_bind (wpAny_bind (wpAny_holding ?_))
    show wpAny _ _ (Builtin.SmallTypes.nextOf (.ref i2) >>= _) _ _ _
    refine wpAny_bind (nextOf_tuple_end (s := { s with heap := h₂ }) hh ((h2.extBut hs₁.extBut D.i2z).extBut hs₂.extBut D.i12.symm) ((hl2.extBut hs₁.extBut D.l2z).extBut hs₂.extBut D.l2i1) hy fun h₃ e hs₃ he => ?_)
    exact hE h₃ e (fun c o c1 c2 c3 x => hs₃ _ _ c3 (hs₂.extBut _ _ c2 (hs₁.extBut _ _ c1 x))) he

theorem pyNext_zipT_item_held {z TI TO T i1 i2 l1 l2 : Addr} {f : Bool} {oT : Obj} {k1 k2 : Nat} {xs ys : Array Value} {x y : Value} {Q : Option Value → Shared → Prop} (D : ZipApart z TI TO i1 i2 l1 l2)
    (hz : IsZipHeld s.heap z TI TO T f) (hT : s.heap.get? T = some oT) (hTI : IsPair s.heap TI (.ref i1) (.ref i2))
    (h1 : s.heap.IsTupleIter i1 l1 k1) (h2 : s.heap.IsTupleIter i2 l2 k2) (hl1 : s.heap.IsTuple l1 xs) (hl2 : s.heap.IsTuple l2 ys) (hx : xs[k1]? = some x) (hy : ys[k2]? = some y)
    (hQ : ∀ h', IsZipHeld h' z TI TO T true → h'.IsTupleIter i1 l1 (k1 + 1) → h'.IsTupleIter i2 l2 (k2 + 1) → IsPair h' s.heap.objs.size x y → h'.objs.size = s.heap.objs.size + 1 →
      (∀ c o, c ≠ z → c ≠ i1 → c ≠ i2 → s.heap.get? c = some o → h'.get? c = some o) → Q (some (.ref s.heap.objs.size)) { s with heap := h' }) :
    wpAny (model prog w) A (pyNext (.ref z)) Q E s := by
  have hTy : s.TypeIs (.ref z) "zip" := ⟨_, hz, rfl⟩
  unfold pyNext
  exact wpAny_bind (wpAny_attempt (wpAny_callSpecial?_slot (name := Str.ofString "__next__") hTy F.slot_zip_next
    (wpAny_call_entry F.slot_zip_next hTy F.entry_zip_next
      (zipT_item_held D hz hT hTI h1 h2 hl1 hl2 hx hy fun h' a1 a3 a4 a5 a6 a7 => wpAny_pure (hQ h' a1 a3 a4 a5 a6 a7)) (F.args_zip_next_1 _))))
theorem pyNext_zipT_end_held {z TI TO T i1 i2 l1 l2 : Addr} {f : Bool} {oT : Obj} {k1 k2 : Nat} {xs ys : Array Value} {Q : Option Value → Shared → Prop} (hh : A.handled = none) (D : ZipApart z TI TO i1 i2 l1 l2)
    (hz : IsZipHeld s.heap z TI TO T f) (hT : s.heap.get? T = some oT) (hTI : IsPair s.heap TI (.ref i1) (.ref i2))
    (h1 : s.heap.IsTupleIter i1 l1 k1) (h2 : s.heap.IsTupleIter i2 l2 k2) (hl1 : s.heap.IsTuple l1 xs) (hl2 : s.heap.IsTuple l2 ys) (hend : xs[k1]? = none ∨ ys[k2]? = none)
    (hQ : ∀ h', (∀ c o, c ≠ z → c ≠ i1 → c ≠ i2 → s.heap.get? c = some o → h'.get? c = some o) → Q none { s with heap := h' }) : wpAny (model prog w) A (pyNext (.ref z)) Q E s := by
  have hTy : s.TypeIs (.ref z) "zip" := ⟨_, hz, rfl⟩
  unfold pyNext
  refine wpAny_bind (wpAny_attempt (wpAny_callSpecial?_slot (name := Str.ofString "__next__") hTy F.slot_zip_next
    (wpAny_call_entry F.slot_zip_next hTy F.entry_zip_next (zipT_end_held hh D hz hT hTI h1 h2 hl1 hl2 hend fun h' e hk he => ?_) (F.args_zip_next_1 _))))
  obtain ⟨o, ho, hc⟩ := he
  refine wpAny_bind (wpAny_isInstance (T := "StopIteration") (b := true) ⟨o, ho, hc⟩ isSubtype_stop ?_)
  exact wpAny_pure (hQ _ hk)

end
section
variable {prog : Program} {w : World}
theorem pairZipT (z TI TO i1 i2 l1 l2 : Addr) (D : ZipApart z TI TO i1 i2 l1 l2) (xs ys : Array Value) :
    PairArg prog w "zip" z [z, TI, TO, i1, i2, l1, l2] [z, TO, i1, i2] (min xs.size ys.size) (fun i k v => xs[i]? = some k ∧ ys[i]? = some v)
      (fun h => IsZip h z TI TO .none ∧ IsPair h TI (.ref i1) (.ref i2) ∧ (∃ a b, IsPair h TO a b) ∧ h.IsTupleIter i1 l1 0 ∧ h.IsTupleIter i2 l2 0 ∧ h.IsTuple l1 xs ∧ h.IsTuple l2 ys) where
  type := fun s ok => ⟨_, ok.1, rfl⟩
  notDict := by decide
  keep := fun h h' ok hk => by
    obtain ⟨hz, hTI, ⟨a, b, hTO⟩, h1, h2, hl1, hl2⟩ := ok
    exact ⟨hk _ _ hz, hk _ _ hTI, ⟨a, b, hk _ _ hTO⟩, h1.at fun o e => hk _ o e, h2.at fun o e => hk _ o e, hl1.at fun o e => hk _ o e, hl2.at fun o e => hk _ o e⟩
  there := fun h ok b hb => by
    obtain ⟨hz, hTI, ⟨a, c, hTO⟩, ⟨o1, h1, _⟩, ⟨o2, h2, _⟩, ⟨o3, hl1, _⟩, ⟨o4, hl2, _⟩⟩ := ok
    simp only [List.mem_cons, List.not_mem_nil, or_false] at hb
    rcases hb with rfl | rfl | rfl | rfl | rfl | rfl | rfl
    all_goals first | exact ⟨_, hz⟩ | exact ⟨_, hTI⟩ | exact ⟨_, hTO⟩ | exact ⟨_, h1⟩ | exact ⟨_, h2⟩ | exact ⟨_, hl1⟩ | exact ⟨_, hl2⟩
  sub := fun b hb => by simp at hb ⊢; rcases hb with rfl | rfl | rfl | rfl <;> simp
  noKeys := fun A s Q E hA ok h => getAttrOr_miss_zip ok.1 rfl rfl rfl zip_no_keys (by decide +kernel) hA h
  iter := fun A s d Q E hA ok hd hdf h => by
    obtain ⟨hz, hTI, ⟨a, b, hTO⟩, h1, h2, hl1, hl2⟩ := ok
    simp only [List.mem_cons, List.not_mem_nil, or_false, not_or] at hdf
    obtain ⟨dz, dTI, dTO, di1, di2, dl1, dl2⟩ := hdf
    refine wpAny_pyIter_zip hz (h z [z, TO, i1, i2] (fun i h => IsPair h TI (.ref i1) (.ref i2) ∧ h.IsTupleIter i1 l1 i ∧ h.IsTupleIter i2 l2 i ∧ h.IsTuple l1 xs ∧ h.IsTuple l2 ys ∧
      ((IsZip h z TI TO .none ∧ ∃ a b, IsPair h TO a b) ∨ ∃ T f oT, IsZipHeld h z TI TO T f ∧ h.get? T = some oT ∧ T ≠ z ∧ T ≠ i1 ∧ T ≠ i2 ∧ T ≠ d)) s.heap s.toks ?_
      ⟨hTI, h1, h2, hl1, hl2, .inl ⟨hz, a, b, hTO⟩⟩ (fun _ _ e => e) fun b hb => .inl hb)
    exact {
      off := fun hm => by
        simp only [List.mem_cons, List.not_mem_nil, or_false] at hm
        rcases hm with e | e | e | e
        · exact dz e
        · exact dTO e
        · exact di1 e
        · exact di2 e
      frame := fun i h₁ h₂ st hk => by
        obtain ⟨hTI, h1, h2, hl1, hl2, hz⟩ := st
        refine ⟨hk _ _ (Ne.symm dTI) hTI, h1.at fun o e => hk _ o (Ne.symm di1) e, h2.at fun o e => hk _ o (Ne.symm di2) e, hl1.at fun o e => hk _ o (Ne.symm dl1) e, hl2.at fun o e => hk _ o (Ne.symm dl2) e, ?_⟩
        rcases hz with ⟨hz, a, b, hTO⟩ | ⟨T, f, oT, hz, hT, r1, r2, r3, r4⟩
        · exact .inl ⟨hk _ _ (Ne.symm dz) hz, a, b, hk _ _ (Ne.symm dTO) hTO⟩
        · exact .inr ⟨T, f, oT, hk _ _ (Ne.symm dz) hz, hk _ _ r4 hT, r1, r2, r3, r4⟩
      item := fun i s₁ Q₁ E₁ hi st hds hQ => by
        obtain ⟨hTI, h1, h2, hl1, hl2, hz⟩ := st
        have hix : i < xs.size := Nat.lt_of_lt_of_le hi (Nat.min_le_left ..)
        have hiy : i < ys.size := Nat.lt_of_lt_of_le hi (Nat.min_le_right ..)
        have ex := Array.getElem?_eq_getElem hix
        have ey := Array.getElem?_eq_getElem hiy
        have lt : ∀ {c o}, s₁.heap.get? c = some o → s₁.heap.objs.size ≠ c := fun e => Nat.ne_of_gt (Heap.lt_size e)
        have n1 : s₁.heap.objs.size ≠ i1 := let ⟨_, e, _⟩ := h1; lt e
        have n2 : s₁.heap.objs.size ≠ i2 := let ⟨_, e, _⟩ := h2; lt e
        rcases hz with ⟨hz, a, b, hTO⟩ | ⟨T, f, oT, hz, hT, r1, r2, r3, r4⟩
        · refine pyNext_zipT_item D hz hTI hTO h1 h2 hl1 hl2 ex ey fun h' a1 a2 a3 a4 a5 a6 hk => ?_
          exact hQ s₁.heap.objs.size _ _ h' s₁.toks ⟨ex, ey⟩ (.inl ⟨_, a5, rfl, _, rfl⟩)
            ⟨hk _ _ D.TIz D.TITO D.TIi1 D.TIi2 hTI, a3, a4, hl1.at fun o e => hk _ o D.l1z D.l1TO D.l1i1 D.l1i2 e, hl2.at fun o e => hk _ o D.l2z D.l2TO D.l2i1 D.l2i2 e,
              .inr ⟨s₁.heap.objs.size, false, _, a1, a5, lt hz, n1, n2, Nat.ne_of_gt hds⟩⟩
            fun c o hc e => hk c o (fun x => hc (by simp [x])) (fun x => hc (by simp [x])) (fun x => hc (by simp [x])) (fun x => hc (by simp [x])) e
        · refine pyNext_zipT_item_held D hz hT hTI h1 h2 hl1 hl2 ex ey fun h' a1 a3 a4 a5 a6 hk => ?_
          exact hQ s₁.heap.objs.size _ _ h' s₁.toks ⟨ex, ey⟩ (.inl ⟨_, a5, rfl, _, rfl⟩)
            ⟨hk _ _ D.TIz D.TIi1 D.TIi2 hTI, a3, a4, hl1.at fun o e => hk _ o D.l1z D.l1i1 D.l1i2 e, hl2.at fun o e => hk _ o D.l2z D.l2i1 D.l2i2 e,
              .inr ⟨T, true, oT, a1, hk _ _ r1 r2 r3 hT, r1, r2, r3, r4⟩⟩
            fun c o hc e => hk c o (fun x => hc (by simp [x])) (fun x => hc (by simp [x])) (fun x => hc (by simp [x])) e
      done := fun s₁ Q₁ E₁ st hQ => by
        obtain ⟨hTI, h1, h2, hl1, hl2, hz⟩ := st
        have hend : xs[min xs.size ys.size]? = none ∨ ys[min xs.size ys.size]? = none := by
          rcases Nat.le_total xs.size ys.size with h | h
          · exact .inl (Array.getElem?_eq_none (by rw [Nat.min_eq_left h]; exact Nat.le_refl _))
          · exact .inr (Array.getElem?_eq_none (by rw [Nat.min_eq_right h]; exact Nat.le_refl _))
        rcases hz with ⟨hz, a, b, hTO⟩ | ⟨T, f, oT, hz, hT, r1, r2, r3, r4⟩
        · exact pyNext_zipT_end hA D hz hTI hTO h1 h2 hl1 hl2 hend fun h' hk => hQ h' s₁.toks fun c o hc e => hk c o (fun x => hc (by simp [x])) (fun x => hc (by simp [x])) (fun x => hc (by simp [x])) (fun x => hc (by simp [x])) e
        · exact pyNext_zipT_end_held hA D hz hT hTI h1 h2 hl1 hl2 hend fun h' hk => hQ h' s₁.toks fun c o hc e => hk c o (fun x => hc (by simp [x])) (fun x => hc (by simp [x])) (fun x => hc (by simp [x])) e }
end

/-- dict(zip(t, u)), the keys texts -/
def tDictZip (K : PySem.W.Frag) (ta : TA) : TE := fun σ H Q => ta σ H fun vs H1 => ∃ (a b : Addr) (ns : List Str) (ys : List V), vs = [.ref a, .ref b] ∧ SqT K H1 a (ns.map V.str) ∧ SqT K H1 b ys ∧ ns.length = ys.length ∧
  ∀ p, H1 p = none → Q (.ref p) (upd H1 p (.dK (mergeK [] ((ns.zip ys).map fun q => (Sum.inr q.1, q.2)))))
section
variable {X : Cx}
theorem pe_dictZip {e e2 : Expr} {ta : TA} {p p2 q pos : Pos} (hg : Gl X "dict") (hm : X.mg "dict" = none) (hg2 : Gl X "zip") (hm2 : X.mg "zip" = none) (ha : PA X [e, e2] ta) (hc : X.calm = true)
    (hs : starEach [e, e2] X.env = (false, eval e X.env) :: starEach [e2] X.env := by rfl) (hpl : (backTo q (starEach [e2] X.env)).any (·.1) = false := by rfl)
    (na : starEach [.Call (.Name "zip" p2) [e, e2] [] q] X.env = (false, eval (.Call (.Name "zip" p2) [e, e2] [] q) X.env) :: starEach [] X.env := by rfl) :
    PE X (.Call (.Name "dict" p) [.Call (.Name "zip" p2) [e, e2] [] q] [] pos) (tDictZip X.K ta) := by
  refine ⟨fun pins s σ H Q I h => ?_⟩
  refine Call_ (ld_blt I hg hm boot_dict ?_)
  refine PyProof.Rows.callWith_type1 (PyProof.Rows.args_cons ?_ na) na rfl
  refine Call_ (ld_blt I hg2 hm2 PyProof.Rows.boot_zip ?_)
  refine PyProof.Rows.callWith_type1 (thn (ha.run q pins s σ H _ I h) fun us s1 ⟨vs, H1, I1, r1, q1⟩ => ?_) hs hpl
  obtain ⟨a, b, ns, ys, rfl, hqx, hqy, hl, q1⟩ := q1
  cases r1 with
  | cons r rr =>
    cases rr with
    | cons r' rr =>
      cases rr
      cases r
      cases r'
      obtain ⟨its, rv, p1, hz1⟩ := I1.tuple hqx
      obtain ⟨its2, rv2, p2', _⟩ := I1.tuple hqy
      obtain ⟨o1, ho1, _⟩ := id p1
      obtain ⟨o2, ho2, _⟩ := id p2'
      have l1 := rv.length
      have l2 := rv2.length
      rw [List.length_map] at l1 hz1
      refine call_zipT (show s1.heap.IsTuple a its.toArray from p1) (show s1.heap.IsTuple b its2.toArray from p2') fun h' hz hTI hTO h1 h2 hsz hk => ?_
      refine PyProof.Rows.args_nil ?_
      have I2 : Inv X pins σ H1 { s1 with heap := h' } := I1.kept (t' := s1.toks) hk
      have D := PySem.W.ktu_apart s1.heap.objs.size a b (Heap.lt_size ho1) (Heap.lt_size ho2)
      have t1 : h'.IsTuple a its.toArray := Heap.IsTuple.at p1 fun o e => hk _ _ e
      have t2 : h'.IsTuple b its2.toArray := Heap.IsTuple.at p2' fun o e => hk _ _ e
      -- the pairs
      have hkv : ∀ (ns : List Str) (ys : List V) (its its2 : List Value), Vals (ns.map V.str) its → Vals ys its2 → KV ((ns.zip ys).map fun q => ((Sum.inr q.1 : Key), q.2)) ((ns.zip its2).map fun q => ((Sum.inr q.1 : Key), q.2)) := by
        intro ns
        induction ns with
        | nil => intro ys its its2 _ _; exact .nil
        | cons n ns ih =>
          intro ys its its2 r1 r2
          cases r1 with
          | cons a1 a2 =>
            cases r2 with
            | nil => exact .nil
            | cons b1 b2 => exact .cons ⟨rfl, b1⟩ (ih _ _ _ a2 b2)
      have kv := hkv ns ys its its2 rv rv2
      refine call_dict_pairs (knd := mixKind X.prog X.w) (kvs := (ns.zip its2).map fun q => ((Sum.inr q.1 : Key), q.2)) (pairZipT _ _ _ _ _ a b D its.toArray its2.toArray) (I2.ok.hd hc) ⟨hz, hTI, ⟨_, _, hTO⟩, h1, h2, t1, t2⟩ ⟨?_, fun i key v hr => ?_⟩ (by simp; omega) fun h2' tk hd' hk2 => ?_
      · rw [List.length_map, List.length_zip]
        simp [l1]
      · obtain ⟨e1, e2⟩ := hr
        have e1' : its[i]? = some key := by simpa using e1
        have e2' : its2[i]? = some v := by simpa using e2
        have hi : i < ns.length := by rw [l1]; exact (List.getElem?_eq_some_iff.mp e1').1
        obtain ⟨u, hu, ru⟩ := Vals.get rv (i := i) (x := V.str ns[i]) (by rw [List.getElem?_map, List.getElem?_eq_getElem hi]; rfl)
        rw [e1'] at hu
        cases hu
        obtain ⟨t, rfl⟩ := ru
        refine ⟨Sum.inr ns[i], ?_, keyIs_str ns[i] t⟩
        rw [List.getElem?_map]
        have : (ns.zip its2)[i]? = some (ns[i], v) := List.getElem?_zip_eq_some.mpr ⟨List.getElem?_eq_getElem hi, e2'⟩
        rw [this]
        rfl
      · have kk : ∀ b o, s1.heap.get? b = some o → h2'.get? b = some o := fun c o e => hk2 c o (fun hcm => by
          have hlt := Heap.lt_size e
          have hge : s1.heap.objs.size ≤ c := by
            have e' : c = s1.heap.objs.size + 4 ∨ c = s1.heap.objs.size + 3 ∨ c = s1.heap.objs.size ∨ c = s1.heap.objs.size + 1 := by simpa using hcm
            rcases e' with z | z | z | z
            · rw [z]; exact Nat.le_add_right _ _
            · rw [z]; exact Nat.le_add_right _ _
            · rw [z]; exact Nat.le_refl _
            · rw [z]; exact Nat.le_add_right _ _
          exact absurd hlt (Nat.not_lt.mpr hge)) (hk c o e)
        have hge : s1.heap.objs.size ≤ h'.objs.size := by omega
        have hbig : (h'.objs.size == sysModules) = false := beq_eq_false_iff_ne.mpr (Nat.ne_of_gt I2.big)
        have hlen : (mergeK [] ((ns.zip ys).map fun q => ((Sum.inr q.1 : Key), q.2))).length ≤ sizeLine := by
          refine Nat.le_trans (length_mergeK _ []) ?_
          rw [List.length_nil, Nat.zero_add, List.length_map, List.length_zip]
          omega
        exact ⟨.ref h'.objs.size, upd H1 h'.objs.size (.dK (mergeK [] ((ns.zip ys).map fun q => ((Sum.inr q.1 : Key), q.2)))), I1.laid (t' := tk) kk hge (show ObjOk X.prog X.w _ _ _ (.dK _) from ⟨hlen, hbig, merged [] ((ns.zip its2).map fun q => ((Sum.inr q.1 : Key), q.2)), KV.merge kv .nil, hd'⟩), rfl, q1 _ (I1.hok.fresh hge)⟩
end
end Wc
set_option maxRecDepth 100000
set_option maxHeartbeats 4000000
/-! W17: a, *b = t; o.f as a target among others. -/
namespace Wc
open PySem PySem.Spec PyProof.Rows L2

/-- (a, *b) = a tuple that isn't empty: b a new list -/
def gStar1 (K : PySem.W.Frag) (t : TGs) : TG := fun v σ H Q => ∃ a y ys, v = .ref a ∧ SqT K H a (y :: ys) ∧ ∀ l, H l = none → t [y, .ref l] σ (upd H l (.lst ys)) Q
section
variable {X : Cx}
theorem pg_star1 {e1 e2 : Expr} {sp pos : Pos} {k : Nat} {t : TGs} (hc : X.calm = true) (h : PGs X [e1, e2] t) (ha : (assignEach [e1, .Starred e2 sp] X.env).map (·.2) = (assignEach [e1, e2] X.env).map (·.2) := by rfl)
    (hn : (assignEach [e1, .Starred e2 sp] X.env).length = 2 := by rfl) (hst : (assignEach [e1, .Starred e2 sp] X.env).findIdx? (·.1) = some 1 := by rfl) : PG X (.Tuple [e1, .Starred e2 sp] k pos) (gStar1 X.K t) := by
  refine ⟨fun pins s σ H v u Q I r hw => ?_⟩
  obtain ⟨a, y, ys, rfl, hq, hw⟩ := hw
  cases r
  obtain ⟨its, rv, ht, hz⟩ := I.tuple hq
  cases rv with
  | @cons _ u0 _ its ry rv =>
  have hlt : a ≠ s.heap.objs.size := by obtain ⟨o, ho, _⟩ := id ht; exact Nat.ne_of_lt (Heap.lt_size ho)
  have hl := rv.length
  rw [List.length_cons] at hz
  rw [assign_Tuple]
  refine wpAny_bind (wpAny_standAt ?_)
  unfold unpack
  rw [hn, hst, ha]
  refine wpAny_bind (wpAny_holding ?_)
  unfold unpackItems
  refine wpAny_bind ?_
  unfold notIterableAtAll
  refine wpAny_bind (wpAny_specialOf (PyProof.Rows.IsTup.typeIs ht) PySem.F.slot_tuple_iter.lookup ?_)
  refine wpAny_pure ?_
  simp only [Bool.false_eq_true, if_false]
  refine wpAny_bind (wpAny_holding (wpAny_pyIter_tuple ht ?_))
  have htp : (s.heap.push { cls := .type "tuple_iterator", data := .fields #[.ref a, .int 0 0] }).IsTuple a (u0 :: its).toArray := Heap.IsTuple.push ht _
  refine wpAny_bind (wpAny_holding (wpAny_draw_tuple hlt 1 0 _ _ ⟨_, Heap.get?_push_size _ rfl, rfl, rfl⟩ htp (by simp) fun h₁ hit₁ hs₁ => ?_))
  have hl₁ : h₁.IsTuple a (u0 :: its).toArray := htp.extBut hs₁.extBut hlt
  rw [Nat.zero_add] at hit₁
  obtain ⟨oi, hoi, _⟩ := id hit₁
  obtain ⟨ol, hol, _⟩ := id hl₁
  have e1 : (List.drop 0 (u0 :: its).toArray.toList).take 1 = [u0] := by simp
  rw [e1, if_neg (show ¬ ([u0].length < 1) by simp)]
  refine wpAny_bind (wpAny_holding (PySem.W.kun_collect (s := { s with heap := h₁ }) (T := "tuple_iterator") (.inr (.inr (.inr rfl))) (Walks.tuple (A := X.A.in1) (I.ok.hd hc) s.heap.objs.size a hlt (u0 :: its).toArray) (fun j u st => st.1.typeIs) (k := 1) (by simp) ⟨hit₁, hl₁⟩ (Heap.lt_size hoi) (Heap.lt_size hol) (fun h₂ tk hk => ?_) (by simp; omega)))
  have e2 : (u0 :: its).toArray.toList.drop 1 = its := by simp
  rw [e2]
  show wpAny _ _ (if its.length < 2 - 1 - 1 then _ else _) _ _ _
  rw [if_neg (by omega)]
  refine wpAny_bind (wpAny_newList ?_ (by rw [List.length_take]; omega))
  have e3 : its.take (its.length - (2 - 1 - 1)) = its := List.take_of_length_le (by omega)
  have e4 : its.drop (its.length - (2 - 1 - 1)) = [] := List.drop_of_length_le (by omega)
  rw [e3, e4]
  refine wpAny_pure ?_
  have kk : ∀ b o, s.heap.get? b = some o → h₂.get? b = some o := fun b o e => hk b o (Nat.ne_of_lt (Heap.lt_size e)) (hs₁.extBut b o (Nat.ne_of_lt (Heap.lt_size e)) (Heap.get?_push_of_some _ e))
  have I1 : Inv X pins σ H { s with heap := h₂, toks := tk } := I.kept kk
  have nL : H h₂.objs.size = none := I1.hok.fresh (Nat.le_refl _)
  have I2 : Inv X pins σ (upd H h₂.objs.size (.lst ys)) { s with heap := h₂.push (seqObj "list" its.toArray 0), toks := tk } := I1.laid (s := { s with heap := h₂, toks := tk }) (t' := tk) (fun b o e => Heap.get?_push_of_some _ e) (Nat.le_refl _) ⟨by omega, its, 0, rv, Heap.get?_push_size _ rfl⟩
  exact h.run pins _ σ _ [y, .ref h₂.objs.size] [u0, .ref h₂.objs.size] Q I2 (.cons ry (.cons rfl .nil)) (hw _ nL)
/-- o.f = v, as one of several targets -/
def gFld (K : PySem.W.Frag) (ta : TE) (f : Str) : TG := fun v σ H Q => ta σ H fun x H2 => ∃ (a C dx : Addr) (fs : List (Str × V)), x = .ref a ∧ H2 a = some (.ins C dx fs) ∧ Cls K C ∧ NoAttr K C f ∧ fs.length < 1000 ∧ Q σ (upd H2 a (.ins C dx (putF f v fs)))
theorem pg_fld {o : Expr} {f : Str} {ta : TE} {pos : Pos} (ha : PE X o ta) : PG X (.Attribute o f pos) (gFld X.K ta f) := by
  refine ⟨fun pins s σ H v u Q I r h => ?_⟩
  show wpAny _ _ (do
    let ov ← holding [u] (eval o X.env)
    standAt pos.atName
    holding [u, ov] (setAttr ov f u)
    release [u, ov] []) _ _ s
  refine wpAny_bind (wpAny_holding (thn (ha.run pins s σ H _ I h) fun ov s2 ⟨x, H2, I2, rx, a, C, dx, fs, ex, ea, c, n, l, q2⟩ => ?_))
  subst ex
  obtain rfl : ov = Value.ref a := rx
  refine wpAny_bind (wpAny_standAt (wpAny_bind (wpAny_holding (setattr_ok I2 ea c n l r fun s3 I3 => wpAny_release ⟨σ, _, I3, q2⟩))))
end
end Wc
set_option maxRecDepth 100000
/-! W18: names, literals, clauses as data; their order. -/
namespace Wc
open PySem PySem.Spec PyProof.Rows L2
open PySem.W (dataLt alike alikeAll AllAlike TotalLe)

mutual
theorem eqv_eq : ∀ (x y : PyData), alike x y = true → PyData.eqv x y = true → x = y
  | .none, y, h, e => by cases y <;> simp_all [alike, PyData.eqv]
  | .bool a, y, h, e => by cases y <;> simp_all [alike, PyData.eqv]
  | .int a, y, h, e => by cases y <;> simp_all [alike, PyData.eqv]
  | .str a, y, h, e => by cases y <;> simp_all [alike, PyData.eqv]
  | .list xs, y, h, e => by
    cases y with
    | list ys =>
      rw [eqvAll_eq xs ys (by simpa [alike] using h) (by simpa [PyData.eqv] using e)]
    | _ => simp [alike] at h
  | .tuple xs, y, h, e => by
    cases y with
    | tuple ys =>
      rw [eqvAll_eq xs ys (by simpa [alike] using h) (by simpa [PyData.eqv] using e)]
    | _ => simp [alike] at h
  | .dict _, y, h, e => by cases y <;> simp [alike] at h
theorem eqvAll_eq : ∀ (xs ys : List PyData), alikeAll xs ys = true → PyData.eqvAll xs ys = true → xs = ys
  | [], [], _, _ => rfl
  | [], _ :: _, _, e => by simp [PyData.eqvAll] at e
  | _ :: _, [], _, e => by simp [PyData.eqvAll] at e
  | x :: xs, y :: ys, h, e => by
    have h' : alike x y = true ∧ alikeAll xs ys = true := by simpa [alikeAll] using h
    have e' : PyData.eqv x y = true ∧ PyData.eqvAll xs ys = true := by simpa [PyData.eqvAll] using e
    rw [eqv_eq x y h'.1 e'.1, eqvAll_eq xs ys h'.2 e'.2]
end
/-- == of data that are alike is = -/
theorem eqv_iff {x y : PyData} (h : alike x y = true) (hr : alike x x = true) : PyData.eqv x y = true ↔ x = y :=
  ⟨eqv_eq x y h, fun e => by subst e; exact PySem.W.eqv_refl_alike x hr⟩
theorem alikeAll_all {xs ys : List PyData} (h : ∀ x ∈ xs, ∀ y ∈ ys, alike x y = true) : alikeAll xs ys = true := by
  induction xs generalizing ys with
  | nil => simp [alikeAll]
  | cons x xs ih =>
    cases ys with
    | nil => simp [alikeAll]
    | cons y ys =>
      rw [alikeAll, h x (by simp) y (by simp), ih fun a ha b hb => h a (by simp [ha]) b (by simp [hb])]
      rfl
theorem noLstAll_all {xs : List PyData} (h : ∀ x ∈ xs, noLst x = true) : noLstAll xs = true := by
  induction xs with
  | nil => simp [noLstAll]
  | cons x xs ih => rw [noLstAll, h x (by simp), ih fun a ha => h a (by simp [ha])]; rfl
theorem depthAll_le {xs : List PyData} {n : Nat} (h : ∀ x ∈ xs, x.depth ≤ n) : PyData.depthAll xs ≤ n := by
  induction xs with
  | nil => simp [PyData.depthAll]
  | cons x xs ih =>
    rw [PyData.depthAll]
    exact Nat.max_le.mpr ⟨h x (by simp), ih fun a ha => h a (by simp [ha])⟩
theorem canLayAll_all {xs : List PyData} (h : ∀ x ∈ xs, x.canLay0 = true) : PyData.canLayAll0 xs = true := by
  induction xs with
  | nil => simp [PyData.canLayAll0]
  | cons x xs ih => rw [PyData.canLayAll0, h x (by simp), ih fun a ha => h a (by simp [ha])]; rfl

/-! ### names -/
/-- the names that the law draws from -/
def pool : List Str := ["a", "ab", "b", "c", "d", "e", "f", "g", "x", "xa", "y", "zzzzzzzz"]
abbrev Lit := Str × Bool
abbrev Cl := List Lit
abbrev Cs := List Cl
def dN (ns : List Str) : PyData := .tuple (ns.map .str)
def dL (l : Lit) : PyData := .tuple [.str l.1, .bool l.2]
def dC (c : Cl) : PyData := .tuple (c.map dL)
def dS (cs : Cs) : PyData := .tuple (cs.map dC)
theorem dL_inj {a b : Lit} (h : dL a = dL b) : a = b := by
  obtain ⟨x, p⟩ := a
  obtain ⟨y, q⟩ := b
  simp only [dL, PyData.tuple.injEq, List.cons.injEq, PyData.str.injEq, PyData.bool.injEq, and_true] at h
  rw [h.1, h.2]
theorem map_inj {α : Type} {f : α → PyData} (hf : ∀ {a b}, f a = f b → a = b) : ∀ {xs ys : List α}, xs.map f = ys.map f → xs = ys
  | [], [], _ => rfl
  | [], _ :: _, h => by simp at h
  | _ :: _, [], h => by simp at h
  | x :: xs, y :: ys, h => by
    simp only [List.map_cons, List.cons.injEq] at h
    rw [hf h.1, map_inj hf h.2]
theorem dC_inj {a b : Cl} (h : dC a = dC b) : a = b := map_inj dL_inj (by simpa [dC] using h)
theorem dS_inj {a b : Cs} (h : dS a = dS b) : a = b := map_inj dC_inj (by simpa [dS] using h)
theorem str_inj {a b : Str} (h : PyData.str a = PyData.str b) : a = b := by simpa using h
theorem dN_inj {a b : List Str} (h : dN a = dN b) : a = b := map_inj str_inj (by simpa [dN] using h)
/-- alike -/
theorem al_str (a b : Str) : alike (.str a) (.str b) = true := rfl
theorem al_dL (a b : Lit) : alike (dL a) (dL b) = true := rfl
theorem al_map {α : Type} {f : α → PyData} (hf : ∀ a b, alike (f a) (f b) = true) (xs ys : List α) : alike (.tuple (xs.map f)) (.tuple (ys.map f)) = true := by
  show alikeAll _ _ = true
  refine alikeAll_all fun x hx y hy => ?_
  obtain ⟨a, _, rfl⟩ := List.mem_map.mp hx
  obtain ⟨b, _, rfl⟩ := List.mem_map.mp hy
  exact hf a b
theorem al_dC (a b : Cl) : alike (dC a) (dC b) = true := al_map al_dL a b
theorem al_dS (a b : Cs) : alike (dS a) (dS b) = true := al_map al_dC a b
theorem al_dN (a b : List Str) : alike (dN a) (dN b) = true := al_map al_str a b
theorem eqv_str (a b : Str) : PyData.eqv (.str a) (.str b) = decide (a = b) := by
  rw [Bool.eq_iff_iff, eqv_iff (al_str a b) (al_str a a), decide_eq_true_iff]
  exact ⟨str_inj, congrArg _⟩
theorem eqv_dL (a b : Lit) : PyData.eqv (dL a) (dL b) = decide (a = b) := by
  rw [Bool.eq_iff_iff, eqv_iff (al_dL a b) (al_dL a a), decide_eq_true_iff]
  exact ⟨dL_inj, congrArg _⟩
theorem eqv_dC (a b : Cl) : PyData.eqv (dC a) (dC b) = decide (a = b) := by
  rw [Bool.eq_iff_iff, eqv_iff (al_dC a b) (al_dC a a), decide_eq_true_iff]
  exact ⟨dC_inj, congrArg _⟩
theorem eqv_dS (a b : Cs) : PyData.eqv (dS a) (dS b) = decide (a = b) := by
  rw [Bool.eq_iff_iff, eqv_iff (al_dS a b) (al_dS a a), decide_eq_true_iff]
  exact ⟨dS_inj, congrArg _⟩
/-- no lists -/
theorem nl_dL (a : Lit) : noLst (dL a) = true := rfl
theorem nl_map {α : Type} {f : α → PyData} (hf : ∀ a, noLst (f a) = true) (xs : List α) : noLst (.tuple (xs.map f)) = true := by
  show noLstAll _ = true
  refine noLstAll_all fun x hx => ?_
  obtain ⟨a, _, rfl⟩ := List.mem_map.mp hx
  exact hf a
theorem nl_dC (a : Cl) : noLst (dC a) = true := nl_map nl_dL a
theorem nl_dS (a : Cs) : noLst (dS a) = true := nl_map nl_dC a
theorem nl_dN (a : List Str) : noLst (dN a) = true := nl_map (fun _ => rfl) a
/-- depth -/
theorem dp_map {α : Type} {f : α → PyData} {n : Nat} (hf : ∀ a, (f a).depth ≤ n) (xs : List α) : (PyData.tuple (xs.map f)).depth ≤ n + 1 := by
  show PyData.depthAll _ + 1 ≤ _
  refine Nat.succ_le_succ (depthAll_le fun x hx => ?_)
  obtain ⟨a, _, rfl⟩ := List.mem_map.mp hx
  exact hf a
theorem dp_dL (a : Lit) : (dL a).depth ≤ 1 := by
  simp [dL, PyData.depth, PyData.depthAll]
theorem dp_dC (a : Cl) : (dC a).depth ≤ 2 := dp_map dp_dL a
theorem dp_dS (a : Cs) : (dS a).depth ≤ 3 := dp_map dp_dC a
theorem dp_dN (a : List Str) : (dN a).depth ≤ 1 := dp_map (n := 0) (fun _ => Nat.zero_le _) a
theorem kd_dC (a : Cl) : KeyD (dC a) := ⟨nl_dC a, Nat.le_trans (dp_dC a) (by decide)⟩
theorem kd_dS (a : Cs) : KeyD (dS a) := ⟨nl_dS a, Nat.le_trans (dp_dS a) (by decide)⟩
/-- laid -/
theorem pool_ok : ∀ x ∈ pool, PyData.canLay0 (.str x) = true := by decide +kernel
theorem lay_map {α : Type} {f : α → PyData} {xs : List α} (hf : ∀ a ∈ xs, (f a).canLay0 = true) : (PyData.tuple (xs.map f)).canLay0 = true := by
  show PyData.canLayAll0 _ = true
  refine canLayAll_all fun x hx => ?_
  obtain ⟨a, ha, rfl⟩ := List.mem_map.mp hx
  exact hf a ha
/-- of the pool -/
def OkC (c : Cl) : Prop := ∀ l ∈ c, l.1 ∈ pool
def OkS (cs : Cs) : Prop := ∀ c ∈ cs, OkC c
def OkNs (ns : List Str) : Prop := ∀ x ∈ ns, x ∈ pool
theorem sh_str {x : Str} (h : x ∈ pool) : SeqAt.shaped (.str x) = true := by
  unfold SeqAt.shaped
  rw [pool_ok x h]
  rfl
theorem sh_of {d : PyData} {n : Nat} (h : d.canLay0 = true) (hd : d.depth ≤ n) (hn : n ≤ 64) : SeqAt.shaped d = true := by
  unfold SeqAt.shaped
  rw [h, Bool.true_and]
  exact decide_eq_true (Nat.le_trans hd hn)
theorem lay_dL {l : Lit} (h : l.1 ∈ pool) : (dL l).canLay0 = true := by
  have := pool_ok _ h
  simp [dL, PyData.canLay0, PyData.canLayAll0] at this ⊢
  exact this
theorem lay_dC {c : Cl} (h : OkC c) : (dC c).canLay0 = true := lay_map fun l hl => lay_dL (h l hl)
theorem lay_dS {cs : Cs} (h : OkS cs) : (dS cs).canLay0 = true := lay_map fun c hc => lay_dC (h c hc)
theorem lay_dN {ns : List Str} (h : OkNs ns) : (dN ns).canLay0 = true := lay_map fun x hx => pool_ok x (h x hx)
theorem sh_dL {l : Lit} (h : l.1 ∈ pool) : SeqAt.shaped (dL l) = true := sh_of (lay_dL h) (dp_dL l) (by decide)
theorem sh_dC {c : Cl} (h : OkC c) : SeqAt.shaped (dC c) = true := sh_of (lay_dC h) (dp_dC c) (by decide)
theorem sh_dS {cs : Cs} (h : OkS cs) : SeqAt.shaped (dS cs) = true := sh_of (lay_dS h) (dp_dS cs) (by decide)
theorem sh_dN {ns : List Str} (h : OkNs ns) : SeqAt.shaped (dN ns) = true := sh_of (lay_dN h) (dp_dN ns) (by decide)
/-! ### keys -/
theorem nkey_dL_inj {a b : Lit} (h : nkey (dL a) = nkey (dL b)) : a = b := by
  obtain ⟨x, p⟩ := a
  obtain ⟨y, q⟩ := b
  simp only [dL, nkey, nkeys, NestedKey.tup.injEq, List.cons.injEq, NestedKey.text.injEq, NestedKey.num.injEq, and_true] at h
  obtain ⟨h1, h2⟩ := h
  cases p <;> cases q <;> simp_all
theorem nkey_map_inj {α : Type} {f : α → PyData} (hf : ∀ {a b}, nkey (f a) = nkey (f b) → a = b) : ∀ {xs ys : List α}, nkeys (xs.map f) = nkeys (ys.map f) → xs = ys
  | [], [], _ => rfl
  | [], _ :: _, h => by simp [nkeys] at h
  | _ :: _, [], h => by simp [nkeys] at h
  | x :: xs, y :: ys, h => by
    simp only [List.map_cons, nkeys, List.cons.injEq] at h
    rw [hf h.1, nkey_map_inj hf h.2]
theorem nkey_dC_inj {a b : Cl} (h : nkey (dC a) = nkey (dC b)) : a = b := nkey_map_inj nkey_dL_inj (by simpa [dC, nkey] using h)
theorem nkey_dS_inj {a b : Cs} (h : nkey (dS a) = nkey (dS b)) : a = b := nkey_map_inj nkey_dC_inj (by simpa [dS, nkey] using h)
/-! ### order -/
def ltN (a b : Str) : Bool := dataLt (.str a) (.str b)
def ltC (a b : Cl) : Bool := dataLt (dC a) (dC b)
theorem dataLt_irrefl (a : PyData) : dataLt a a = false := lex_irrefl _
theorem dataLt_total {a b : PyData} (h : alike a b = true) (h1 : dataLt a b = false) (h2 : dataLt b a = false) : PyData.eqv a b = true := by
  cases e : PyData.eqv a b with
  | true => rfl
  | false =>
    exfalso
    have t := lex_total _ _ h1 h2
    have q := (PySem.W.toks_eqv a b h).2 e [Sum.inl 0] [Sum.inl 1]
    rw [t, PySem.W.lex_pre, lex_irrefl, PySem.W.lex_one] at q
    exact absurd q (by decide)
section
variable {α : Type} {f : α → PyData}
/-- sorted, by what they read as -/
def srtE (f : α → PyData) (xs : List α) : List α := xs.mergeSort fun a b => !dataLt (f b) (f a)
/-- data that can be told apart by < -/
structure Ord (f : α → PyData) : Prop where
  al : ∀ a b, alike (f a) (f b) = true
  inj : ∀ {a b}, f a = f b → a = b
theorem Ord.eq (o : Ord f) {a b : α} (h1 : dataLt (f a) (f b) = false) (h2 : dataLt (f b) (f a) = false) : a = b := o.inj (eqv_eq _ _ (o.al a b) (dataLt_total (o.al a b) h1 h2))
theorem srtE_perm (xs : List α) : (srtE f xs).Perm xs := List.mergeSort_perm _ _
theorem srtE_mem {xs : List α} {a : α} : a ∈ srtE f xs ↔ a ∈ xs := (srtE_perm xs).mem_iff
theorem srtE_len (xs : List α) : (srtE f xs).length = xs.length := (srtE_perm xs).length_eq
theorem srtE_nodup {xs : List α} : (srtE f xs).Nodup ↔ xs.Nodup := (srtE_perm xs).nodup_iff
theorem srtE_pair (xs : List α) : (srtE f xs).Pairwise fun a b => dataLt (f b) (f a) = false := by
  have h := List.pairwise_mergeSort (le := fun a b : α => !dataLt (f b) (f a)) (fun a b c h1 h2 => ?_) (fun a b => ?_) xs
  · exact h.imp fun {a b} q => by simpa using q
  · simp only [Bool.not_eq_true'] at h1 h2 ⊢
    cases q : dataLt (f c) (f a) with
    | false => rfl
    | true =>
      rcases lex_negTrans _ (PySem.W.keyToks (f b)) _ q with z | z
      · rw [show dataLt (f c) (f b) = true from z] at h2
        cases h2
      · rw [show dataLt (f b) (f a) = true from z] at h1
        cases h1
  · cases q : dataLt (f b) (f a) with
    | false => rfl
    | true =>
      cases q2 : dataLt (f a) (f b) with
      | false => rfl
      | true =>
        have := lex_trans _ _ _ q q2
        rw [lex_irrefl] at this
        cases this
theorem srtE_strict (o : Ord f) {xs : List α} (h : xs.Nodup) : (srtE f xs).Pairwise fun a b => dataLt (f a) (f b) = true := by
  have p := srtE_pair (f := f) xs
  have n : (srtE f xs).Nodup := srtE_nodup.mpr h
  refine (p.and n).imp fun {a b} ⟨h1, h2⟩ => ?_
  cases q : dataLt (f a) (f b) with
  | true => rfl
  | false => exact absurd (o.eq q h1) h2
theorem srtE_unique (o : Ord f) {xs ys : List α} (h : xs.Perm ys) : srtE f xs = srtE f ys :=
  List.Perm.eq_of_pairwise (le := fun a b => dataLt (f b) (f a) = false) (fun a b _ _ h1 h2 => o.eq h2 h1) (srtE_pair xs) (srtE_pair ys) (((srtE_perm xs).trans h).trans (srtE_perm ys).symm)
/-- what is rising is sorted -/
theorem srtE_ris (xs : List α) (h : xs.Pairwise fun a b => dataLt (f a) (f b) = true) : srtE f xs = xs := by
  refine List.mergeSort_of_pairwise (h.imp fun {a b} q => ?_)
  cases q2 : dataLt (f b) (f a) with
  | false => rfl
  | true =>
    have := lex_trans _ _ _ q q2
    rw [lex_irrefl] at this
    cases this
theorem nodup_of_ris {xs : List α} (h : xs.Pairwise fun a b => dataLt (f a) (f b) = true) : xs.Nodup := h.imp fun {a b} q e => by
  subst e
  rw [dataLt_irrefl] at q
  cases q
theorem nodup_perm {xs ys : List α} [DecidableEq α] (h1 : xs.Nodup) (h2 : ys.Nodup) (h : ∀ a, a ∈ xs ↔ a ∈ ys) : xs.Perm ys := by
  rw [List.perm_iff_count]
  intro a
  rw [h1.count, h2.count]
  simp only [h a]
/-- sorted data, as data -/
theorem srtD_map (xs : List α) : srtD (xs.map f) = (srtE f xs).map f := (PySem.W.sort_maps (r := fun a b : α => !dataLt (f b) (f a)) f fun _ _ _ _ => rfl).symm
theorem sortOk_tups {n : Nat} (al : ∀ a b, alike (f a) (f b) = true) (ht : ∀ a, ∃ r, f a = .tuple r) (hd : ∀ a, (f a).depth ≤ n) (hn : n ≤ 64) (xs : List α) : SortOk (xs.map f) := by
  refine ⟨fun d hd' e he => ?_, .inl fun d hd' => ?_, fun d hd' => ?_⟩
  · obtain ⟨a, _, rfl⟩ := List.mem_map.mp hd'
    obtain ⟨b, _, rfl⟩ := List.mem_map.mp he
    exact al a b
  · obtain ⟨a, _, rfl⟩ := List.mem_map.mp hd'
    exact ht a
  · obtain ⟨a, _, rfl⟩ := List.mem_map.mp hd'
    exact Nat.le_trans (hd a) hn
end
theorem ordN : Ord PyData.str := ⟨al_str, str_inj⟩
theorem ordL : Ord dL := ⟨al_dL, dL_inj⟩
theorem ordC : Ord dC := ⟨al_dC, dC_inj⟩
theorem sortOk_dC (cs : Cs) : SortOk (cs.map dC) := sortOk_tups al_dC (fun a => ⟨_, rfl⟩) dp_dC (by decide) cs
theorem sortOk_dL (c : Cl) : SortOk (c.map dL) := sortOk_tups al_dL (fun a => ⟨_, rfl⟩) dp_dL (by decide) c
end Wc
set_option maxRecDepth 100000
set_option maxHeartbeats 4000000
/-! W19: readings of list comprehensions, by data. -/
namespace Wc
open PySem PySem.Spec PyProof.Rows L2

section
variable {K : PySem.W.Frag} {H H' : Hp} {D : Addr}
theorem same_of {H1 H : Hp} (e : Same H1 H) {D : Addr} {u : HO} (hD : H1 D = none) : Same H1 (upd H D u) := fun b o h => by
  rw [upd_ne (ne_of_none h hD)]
  exact e b o h
theorem same_upd {H : Hp} {D : Addr} {u : HO} (hD : H D = none) : Same H (upd H D u) := same_of (Same.refl H) hD
/-- a list's change leaves tuples alone -/
theorem tk_lst {xs : List V} {u : HO} (h : H D = some (.lst xs)) : Tk K H (upd H D u) := fun a ys q => by
  rcases q with (q | ⟨o, q⟩) | q
  · exact Or.inl (Or.inl (by rw [upd_ne (fun z => by rw [z, h] at q; cases q)]; exact q))
  · exact Or.inl (Or.inr ⟨o, by rw [upd_ne (fun z => by rw [z, h] at q; cases q)]; exact q⟩)
  · exact Or.inr q
theorem filterMap_range_succ {α : Type} (f : Nat → Option α) (i : Nat) : (List.range (i + 1)).filterMap f = (List.range i).filterMap f ++ (f i).toList := by
  rw [List.range_succ, List.filterMap_append]
  simp only [List.filterMap_cons, List.filterMap_nil]
  cases f i <;> rfl
end
section
variable {K : PySem.W.Frag} {J J1 : It} {n n1 : Nat} {G G1 : Hp → Prop} {Y Y1 : Nat → Hp → V → Hp → Prop} {g g1 : TG} {tt tt1 : TT} {te : TE} {vs vs1 : List Nat} {σ : L2.St} {H1 : Hp} {D : Addr} {Q : Hp → Prop}
/-- a comprehension over any walk: f: what turn i gives -/
theorem lcW (w : Walk J n G Y) (hD : H1 D = none) (hsz : n ≤ sizeLine) (hG : ∀ H, Same H1 H → G H) (f : Nat → Option PyData) (hn : ∀ i d, i < n → f i = some d → noLst d = true)
    (hs : ∀ i x H H' (Rt : VK) (Rf : Hp → Prop), i < n → Same H1 H → Y i H x H' → (∀ d y H4, f i = some d → Same H H4 → Dp K H4 y d → Rt y H4) → (∀ H4, f i = none → Same H H4 → Rf H4) →
      g x (wipe σ vs) H' fun σ2 H2 => wipe σ2 vs = wipe σ vs ∧ tt σ2 H2 fun b H3 => if b = true then te σ2 H3 Rt else Rf H3)
    (hd : ∀ H acc, Same H1 H → H D = some (.lst acc) → DpAll K H acc ((List.range n).filterMap f) → Q H) :
    ∃ W : Nat → Nat → Hp → Prop, (∃ m, W 0 m (upd H1 D (.lst []))) ∧ ∀ i m H, W i m H →
      (J.stop i H ∧ Q H) ∨ (J.go i H ∧ ∃ Nx : Hp → Prop, (∀ H', Nx H' → ∃ m', m' < m ∧ W (i + 1) m' H') ∧ ∀ x H', J.yld i H x H' → g x (wipe σ vs) H' fun σ2 H2 => wipe σ2 vs = wipe σ vs ∧ tt σ2 H2 fun b H3 =>
        if b = true then te σ2 H3 fun y H4 => ∃ acc, H4 D = some (.lst acc) ∧ acc.length < sizeLine ∧ Nx (upd H4 D (.lst (acc ++ [y]))) else Nx H3) := by
  refine lc_it w (fun i H => Same H1 H ∧ ∃ acc, H D = some (.lst acc) ∧ DpAll K H acc ((List.range i).filterMap f) ∧ acc.length ≤ i) ⟨same_upd hD, [], upd_same, .nil, Nat.le_refl _⟩ (fun i H _ h => hG H h.1) ?_ ?_
  · rintro i x H H' hi ⟨sm, acc, ha, da, hl⟩ hy
    refine hs i x H H' _ _ hi sm hy (fun d y H4 e s4 dy => ?_) fun H4 e s4 => ?_
    · refine ⟨acc, s4 _ _ ha, by omega, same_of (sm.trans s4) hD, acc ++ [y], upd_same, ?_, by rw [List.length_append, List.length_singleton]; omega⟩
      have tk : Tk K H4 (upd H4 D (.lst (acc ++ [y]))) := tk_lst (s4 _ _ ha)
      rw [filterMap_range_succ, e]
      have nl : noLstAll ((List.range i).filterMap f) = true := noLstAll_all fun d hd => by
        obtain ⟨j, hj, e⟩ := List.mem_filterMap.mp hd
        exact hn j d (Nat.lt_trans (List.mem_range.mp hj) hi) e
      exact dpSnoc (dpAllTk tk _ _ nl (dpAllSame s4 _ _ da)) (dpTk tk _ _ (hn i d hi e) dy)
    · refine ⟨sm.trans s4, acc, s4 _ _ ha, ?_, by omega⟩
      rw [filterMap_range_succ, e]
      show DpAll K H4 acc ((List.range i).filterMap f ++ [])
      rw [List.append_nil]
      exact dpAllSame s4 _ _ da
  · rintro H ⟨sm, acc, ha, da, hl⟩
    exact hd H acc sm ha da
/-- the inner walk of a comprehension with two -/
theorem lcIn {H4 : Hp} (w1 : Walk J1 n1 G1 Y1) (hD : H1 D = none) (s4 : Same H1 H4) {acc0 : List V} (ha : H4 D = some (.lst acc0)) (hsz : acc0.length + n1 ≤ sizeLine) (hG : ∀ H, Same H1 H → G1 H) (f : Nat → Option PyData) (hn : ∀ i d, i < n1 → f i = some d → noLst d = true)
    {σ2 : L2.St} {Nx : Hp → Prop}
    (hs : ∀ i x H H' (Rt : VK) (Rf : Hp → Prop), i < n1 → Same H1 H → Y1 i H x H' → (∀ d y H4, f i = some d → Same H H4 → Dp K H4 y d → Rt y H4) → (∀ H4, f i = none → Same H H4 → Rf H4) →
      g1 x (wipe σ2 vs1) H' fun σ3 H5 => wipe σ3 vs1 = wipe σ2 vs1 ∧ tt1 σ3 H5 fun b H6 => if b = true then te σ3 H6 Rt else Rf H6)
    (hd : ∀ H acc, Same H1 H → Tk K H4 H → H D = some (.lst (acc0 ++ acc)) → DpAll K H acc ((List.range n1).filterMap f) → acc.length ≤ n1 → Nx H) :
    ∃ W1 : Nat → Nat → Hp → Prop, (∃ m, W1 0 m H4) ∧ ∀ j k H, W1 j k H →
      (J1.stop j H ∧ Nx H) ∨ (J1.go j H ∧ ∃ Nx1 : Hp → Prop, (∀ H', Nx1 H' → ∃ k', k' < k ∧ W1 (j + 1) k' H') ∧ ∀ x H', J1.yld j H x H' → g1 x (wipe σ2 vs1) H' fun σ3 H5 => wipe σ3 vs1 = wipe σ2 vs1 ∧ tt1 σ3 H5 fun b H6 =>
        if b = true then te σ3 H6 fun y H7 => ∃ acc, H7 D = some (.lst acc) ∧ acc.length < sizeLine ∧ Nx1 (upd H7 D (.lst (acc ++ [y]))) else Nx1 H6) := by
  refine ⟨fun j k H => k = n1 - j ∧ j ≤ n1 ∧ Same H1 H ∧ Tk K H4 H ∧ ∃ acc, H D = some (.lst (acc0 ++ acc)) ∧ DpAll K H acc ((List.range j).filterMap f) ∧ acc.length ≤ j, ⟨n1, by simp, Nat.zero_le _, s4, Tk.refl K H4, [], by simpa using ha, .nil, Nat.le_refl _⟩, ?_⟩
  rintro j k H ⟨rfl, hj, sm, tk0, acc, hacc, da, hl⟩
  by_cases hlt : j < n1
  · refine .inr ⟨w1.goes j H hlt (hG H sm), _, fun H' p' => ⟨n1 - (j + 1), by omega, rfl, hlt, p'⟩, fun x H' hy => ?_⟩
    refine hs j x H H' _ _ hlt sm (w1.yields j H x H' hlt (hG H sm) hy) (fun d y H7 e s7 dy => ?_) fun H7 e s7 => ?_
    · have tk : Tk K H7 (upd H7 D (.lst (acc0 ++ acc ++ [y]))) := tk_lst (s7 _ _ hacc)
      refine ⟨acc0 ++ acc, s7 _ _ hacc, by rw [List.length_append]; omega, same_of (sm.trans s7) hD, tk0.trans ((Tk.same s7).trans tk), acc ++ [y], by rw [upd_same, List.append_assoc], ?_, by rw [List.length_append, List.length_singleton]; omega⟩
      rw [filterMap_range_succ, e]
      have nl : noLstAll ((List.range j).filterMap f) = true := noLstAll_all fun d hd => by
        obtain ⟨i, hi, e⟩ := List.mem_filterMap.mp hd
        exact hn i d (Nat.lt_trans (List.mem_range.mp hi) hlt) e
      exact dpSnoc (dpAllTk tk _ _ nl (dpAllSame s7 _ _ da)) (dpTk tk _ _ (hn j d hlt e) dy)
    · refine ⟨sm.trans s7, tk0.trans (Tk.same s7), acc, s7 _ _ hacc, ?_, by omega⟩
      rw [filterMap_range_succ, e]
      show DpAll K H7 acc ((List.range j).filterMap f ++ [])
      rw [List.append_nil]
      exact dpAllSame s7 _ _ da
  · have e : j = n1 := by omega
    subst e
    exact .inl ⟨w1.stops H (hG H sm), hd H acc sm tk0 hacc da hl⟩
/-- a comprehension with two walks: F: what turn i gives, in all; B: no more than so many items each turn -/
theorem lcOut {wi1 : TI} (w : Walk J n G Y) (hD : H1 D = none) (B : Nat) (hsz : n * B ≤ sizeLine) (hG : ∀ H, Same H1 H → G H) (F : Nat → List PyData) (hn : ∀ i d, i < n → d ∈ F i → noLst d = true)
    (hs : ∀ i x H H' acc (Nx : Hp → Prop), i < n → Same H1 H → H D = some (.lst acc) → acc.length + B ≤ sizeLine → Y i H x H' → (∀ H4 acc', Same H1 H4 → Tk K H H4 → H4 D = some (.lst (acc ++ acc')) → DpAll K H4 acc' (F i) → acc'.length ≤ B → Nx H4) →
      g x (wipe σ vs) H' fun σ2 H2 => wipe σ2 vs = wipe σ vs ∧ tt σ2 H2 fun b H3 => if b = true then wi1 σ2 H3 fun J1 H4 => ∃ W1 : Nat → Nat → Hp → Prop, (∃ m, W1 0 m H4) ∧ ∀ j k H, W1 j k H →
        (J1.stop j H ∧ Nx H) ∨ (J1.go j H ∧ ∃ Nx1 : Hp → Prop, (∀ H', Nx1 H' → ∃ k', k' < k ∧ W1 (j + 1) k' H') ∧ ∀ x H', J1.yld j H x H' → g1 x (wipe σ2 vs1) H' fun σ3 H5 => wipe σ3 vs1 = wipe σ2 vs1 ∧ tt1 σ3 H5 fun b H6 =>
          if b = true then te σ3 H6 fun y H7 => ∃ acc, H7 D = some (.lst acc) ∧ acc.length < sizeLine ∧ Nx1 (upd H7 D (.lst (acc ++ [y]))) else Nx1 H6) else Nx H3)
    (hd : ∀ H acc, Same H1 H → H D = some (.lst acc) → DpAll K H acc ((List.range n).flatMap F) → acc.length ≤ n * B → Q H) :
    ∃ W : Nat → Nat → Hp → Prop, (∃ m, W 0 m (upd H1 D (.lst []))) ∧ ∀ i m H, W i m H →
      (J.stop i H ∧ Q H) ∨ (J.go i H ∧ ∃ Nx : Hp → Prop, (∀ H', Nx H' → ∃ m', m' < m ∧ W (i + 1) m' H') ∧ ∀ x H', J.yld i H x H' → g x (wipe σ vs) H' fun σ2 H2 => wipe σ2 vs = wipe σ vs ∧ tt σ2 H2 fun b H3 =>
        if b = true then wi1 σ2 H3 fun J1 H4 => ∃ W1 : Nat → Nat → Hp → Prop, (∃ m, W1 0 m H4) ∧ ∀ j k H, W1 j k H →
          (J1.stop j H ∧ Nx H) ∨ (J1.go j H ∧ ∃ Nx1 : Hp → Prop, (∀ H', Nx1 H' → ∃ k', k' < k ∧ W1 (j + 1) k' H') ∧ ∀ x H', J1.yld j H x H' → g1 x (wipe σ2 vs1) H' fun σ3 H5 => wipe σ3 vs1 = wipe σ2 vs1 ∧ tt1 σ3 H5 fun b H6 =>
            if b = true then te σ3 H6 fun y H7 => ∃ acc, H7 D = some (.lst acc) ∧ acc.length < sizeLine ∧ Nx1 (upd H7 D (.lst (acc ++ [y]))) else Nx1 H6)
        else Nx H3) := by
  refine ⟨fun i m H => m = n - i ∧ i ≤ n ∧ Same H1 H ∧ ∃ acc, H D = some (.lst acc) ∧ DpAll K H acc ((List.range i).flatMap F) ∧ acc.length ≤ i * B, ⟨n, by simp, Nat.zero_le _, same_upd hD, [], upd_same, .nil, Nat.zero_le _⟩, ?_⟩
  rintro i m H ⟨rfl, hi, sm, acc, hacc, da, hl⟩
  by_cases hlt : i < n
  · have hB : (i + 1) * B ≤ n * B := Nat.mul_le_mul_right B hlt
    rw [Nat.succ_mul] at hB
    refine .inr ⟨w.goes i H hlt (hG H sm), _, fun H' p' => ⟨n - (i + 1), by omega, rfl, hlt, p'⟩, fun x H' hy => ?_⟩
    refine hs i x H H' acc _ hlt sm hacc (by omega) (w.yields i H x H' hlt (hG H sm) hy) fun H4 acc' s4 tk h4 d4 l4 => ⟨s4, acc ++ acc', h4, ?_, by rw [List.length_append, Nat.succ_mul]; omega⟩
    rw [List.range_succ, List.flatMap_append]
    have nl : noLstAll ((List.range i).flatMap F) = true := noLstAll_all fun d hd => by
      obtain ⟨j, hj, e⟩ := List.mem_flatMap.mp hd
      exact hn j d (Nat.lt_trans (List.mem_range.mp hj) hlt) e
    refine dpApp (dpAllTk tk _ _ nl da) ?_
    simpa using d4
  · have e : i = n := by omega
    subst e
    exact .inl ⟨w.stops H (hG H sm), hd H acc sm hacc da hl⟩
end

/-! ### set comprehensions -/
section
variable {α : Type} [DecidableEq α]
/-- each item once -/
def nub : List α → List α
  | [] => []
  | x :: xs => if x ∈ nub xs then nub xs else x :: nub xs
theorem mem_nub {a : α} : ∀ {xs : List α}, a ∈ nub xs ↔ a ∈ xs
  | [] => Iff.rfl
  | x :: xs => by
    have ih := mem_nub (a := a) (xs := xs)
    unfold nub
    split
    · rename_i h
      rw [ih, List.mem_cons]
      refine ⟨.inr, fun q => q.elim (fun e => ?_) id⟩
      rw [e]
      exact mem_nub.mp h
    · rw [List.mem_cons, List.mem_cons, ih]
theorem nub_nodup : ∀ xs : List α, (nub xs).Nodup
  | [] => List.nodup_nil
  | x :: xs => by
    unfold nub
    split
    · exact nub_nodup xs
    · rename_i h
      exact List.nodup_cons.mpr ⟨h, nub_nodup xs⟩
theorem nub_len : ∀ xs : List α, (nub xs).length ≤ xs.length
  | [] => Nat.le_refl _
  | x :: xs => by
    have ih := nub_len xs
    unfold nub
    split
    · rw [List.length_cons]; omega
    · rw [List.length_cons, List.length_cons]; omega
end
section
variable {K : PySem.W.Frag} {w : World} {J J1 : It} {n n1 : Nat} {G G1 : Hp → Prop} {Y Y1 : Nat → Hp → V → Hp → Prop} {g g1 : TG} {tt tt1 : TT} {te : TE} {vs vs1 : List Nat} {σ σ2 : L2.St} {H1 H4 : Hp} {D : Addr}
/-- the inner walk of a set comprehension that makes texts -/
theorem scTIn {xs0 : List Str} {Nx : Hp → Prop} (w1 : Walk J1 n1 G1 Y1) (hD : H1 D = none) (s4 : Same H1 H4) (h4 : H4 D = some (TSetO w D xs0)) (nd0 : xs0.Nodup) (few : xs0.length + n1 < 4096) (hG : ∀ H, Same H1 H → G1 H) (f : Nat → Str)
    (hs : ∀ j x H H' (Rt : VK) (Rf : Hp → Prop), j < n1 → Same H1 H → Y1 j H x H' → (∀ H7, Same H H7 → Rt (.str (f j)) H7) →
      g1 x (wipe σ2 vs1) H' fun σ3 H5 => wipe σ3 vs1 = wipe σ2 vs1 ∧ tt1 σ3 H5 fun b H6 => if b = true then te σ3 H6 Rt else Rf H6)
    (hd : ∀ H xs, Same H1 H → H D = some (TSetO w D xs) → xs.Nodup → (∀ s, s ∈ xs ↔ s ∈ xs0 ∨ s ∈ (List.range n1).map f) → xs.length ≤ xs0.length + n1 → Nx H) :
    ∃ W1 : Nat → Nat → Hp → Prop, (∃ m, W1 0 m H4) ∧ ∀ j k H, W1 j k H →
      (J1.stop j H ∧ Nx H) ∨ (J1.go j H ∧ ∃ Nx1 : Hp → Prop, (∀ H', Nx1 H' → ∃ k', k' < k ∧ W1 (j + 1) k' H') ∧ ∀ x H', J1.yld j H x H' → g1 x (wipe σ2 vs1) H' fun σ3 H5 => wipe σ3 vs1 = wipe σ2 vs1 ∧ tt1 σ3 H5 fun b H6 =>
        if b = true then te σ3 H6 fun y H7 => addT w D y H7 Nx1 else Nx1 H6) := by
  refine ⟨fun j k H => k = n1 - j ∧ j ≤ n1 ∧ Same H1 H ∧ ∃ xs, H D = some (TSetO w D xs) ∧ xs.Nodup ∧ (∀ s, s ∈ xs ↔ s ∈ xs0 ∨ s ∈ (List.range j).map f) ∧ xs.length ≤ xs0.length + j, ⟨n1, by simp, Nat.zero_le _, s4, xs0, h4, nd0, fun s => by simp, Nat.le_refl _⟩, ?_⟩
  rintro j k H ⟨rfl, hj, sm, xs, hx, nd, hm, hl⟩
  by_cases hlt : j < n1
  · refine .inr ⟨w1.goes j H hlt (hG H sm), _, fun H' p' => ⟨n1 - (j + 1), by omega, rfl, hlt, p'⟩, fun x H' hy => ?_⟩
    refine hs j x H H' _ _ hlt sm (w1.yields j H x H' hlt (hG H sm) hy) fun H7 s7 => ?_
    refine ⟨f j, xs, rfl, s7 _ _ hx, by omega, fun xs' c1 c2 => ⟨same_of (sm.trans s7) hD, xs', upd_same, ?_, fun s => ?_, ?_⟩⟩
    · by_cases c : f j ∈ xs
      · rw [c1 c]; exact nd
      · exact (c2 c).nodup_iff.mpr (List.nodup_cons.mpr ⟨c, nd⟩)
    · rw [List.range_succ, List.map_append, List.mem_append]
      by_cases c : f j ∈ xs
      · rw [c1 c, hm s]
        refine ⟨fun q => q.elim .inl fun z => .inr (.inl z), fun q => q.elim .inl fun z => z.elim .inr fun z => ?_⟩
        have e : s = f j := by simpa using z
        rw [e]
        exact (hm _).mp c
      · rw [(c2 c).mem_iff, List.mem_cons, hm s]
        constructor
        · rintro (e | q | q)
          · exact .inr (.inr (by simp [e]))
          · exact .inl q
          · exact .inr (.inl q)
        · rintro (q | q | q)
          · exact .inr (.inl q)
          · exact .inr (.inr q)
          · exact .inl (by simpa using q)
    · by_cases c : f j ∈ xs
      · rw [c1 c]; omega
      · rw [(c2 c).length_eq, List.length_cons]; omega
  · have e : j = n1 := by omega
    subst e
    exact .inl ⟨w1.stops H (hG H sm), hd H xs sm hx nd hm hl⟩
/-- a set comprehension with two walks that makes texts -/
theorem scTOut {wi1 : TI} {Q : VK} (w0 : Walk J n G Y) (hD : H1 D = none) (B : Nat) (hsz : n * B < 4096) (hG : ∀ H, Same H1 H → G H) (F : Nat → List Str)
    (hs : ∀ i x H H' xs (Nx : Hp → Prop), i < n → Same H1 H → H D = some (TSetO w D xs) → xs.Nodup → xs.length + B < 4096 → Y i H x H' → (∀ H4 xs', Same H1 H4 → H4 D = some (TSetO w D xs') → xs'.Nodup → (∀ s, s ∈ xs' ↔ s ∈ xs ∨ s ∈ F i) → xs'.length ≤ xs.length + B → Nx H4) →
      g x (wipe σ vs) H' fun σ2 H2 => wipe σ2 vs = wipe σ vs ∧ tt σ2 H2 fun b H3 => if b = true then wi1 σ2 H3 fun J1 H4 => ∃ W1 : Nat → Nat → Hp → Prop, (∃ m, W1 0 m H4) ∧ ∀ j k H, W1 j k H →
        (J1.stop j H ∧ Nx H) ∨ (J1.go j H ∧ ∃ Nx1 : Hp → Prop, (∀ H', Nx1 H' → ∃ k', k' < k ∧ W1 (j + 1) k' H') ∧ ∀ x H', J1.yld j H x H' → g1 x (wipe σ2 vs1) H' fun σ3 H5 => wipe σ3 vs1 = wipe σ2 vs1 ∧ tt1 σ3 H5 fun b H6 =>
          if b = true then te σ3 H6 fun y H7 => addT w D y H7 Nx1 else Nx1 H6) else Nx H3)
    (hd : ∀ H xs, Same H1 H → H D = some (TSetO w D xs) → xs.Nodup → (∀ s, s ∈ xs ↔ s ∈ (List.range n).flatMap F) → Q (.ref D) H) :
    kSc2 (addT w) g tt wi1 g1 tt1 te vs vs1 σ Q J D (upd H1 D (TSetO w D [])) := by
  refine ⟨fun i m H => m = n - i ∧ i ≤ n ∧ Same H1 H ∧ ∃ xs, H D = some (TSetO w D xs) ∧ xs.Nodup ∧ (∀ s, s ∈ xs ↔ s ∈ (List.range i).flatMap F) ∧ xs.length ≤ i * B, ⟨n, by simp, Nat.zero_le _, same_upd hD, [], upd_same, List.nodup_nil, fun s => by simp, Nat.zero_le _⟩, ?_⟩
  rintro i m H ⟨rfl, hi, sm, xs, hx, nd, hm, hl⟩
  by_cases hlt : i < n
  · have hB : (i + 1) * B ≤ n * B := Nat.mul_le_mul_right B hlt
    rw [Nat.succ_mul] at hB
    refine .inr ⟨w0.goes i H hlt (hG H sm), _, fun H' p' => ⟨n - (i + 1), by omega, rfl, hlt, p'⟩, fun x H' hy => ?_⟩
    refine hs i x H H' xs _ hlt sm hx nd (by omega) (w0.yields i H x H' hlt (hG H sm) hy) fun H4 xs' s4 h4 nd' m' l' => ⟨s4, xs', h4, nd', fun s => ?_, by rw [Nat.succ_mul]; omega⟩
    rw [m', hm, List.range_succ, List.flatMap_append, List.mem_append]
    simp
  · have e : i = n := by omega
    subst e
    exact .inl ⟨w0.stops H (hG H sm), hd H xs sm hx nd hm⟩
/-- what an address of a set of tuples reads as -/
abbrev NRd (K : PySem.W.Frag) (H : Hp) (L : List (Addr × PyData)) : Prop := ∀ p ∈ L, Dp K H (.ref p.1) p.2 ∧ KeyD p.2
theorem nset_ne {a : Addr} {L : List (Addr × PyData)} (xs : List V) : NSetO w a L ≠ .lst xs := fun z => by unfold NSetO at z; cases z
theorem tk_ext {φ : Heap → Prop} {u : HO} {H : Hp} (h : H D = some (.ext φ)) : Tk K H (upd H D u) := fun a ys q => by
  rcases q with (q | ⟨o, q⟩) | q
  · exact Or.inl (Or.inl (by rw [upd_ne (fun z => by rw [z, h] at q; cases q)]; exact q))
  · exact Or.inl (Or.inr ⟨o, by rw [upd_ne (fun z => by rw [z, h] at q; cases q)]; exact q⟩)
  · exact Or.inr q
/-- a set comprehension with one walk that makes tuples, told apart by ι -/
theorem scNOut {β : Type} [DecidableEq β] {enc : β → PyData} {Q : VK} (hinj : ∀ {a b}, nkey (enc a) = nkey (enc b) → a = b) (hk : ∀ a, KeyD (enc a)) (w0 : Walk J n G Y) (hD : H1 D = none) (hsz : n < 64) (hG : ∀ H, Same H1 H → G H) (f : Nat → β)
    (hs : ∀ i x H H' (Rt : VK) (Rf : Hp → Prop), i < n → Same H1 H → Y i H x H' → (∀ a H4, Same H H4 → Dp K H4 (.ref a) (enc (f i)) → Rt (.ref a) H4) →
      g x (wipe σ vs) H' fun σ2 H2 => wipe σ2 vs = wipe σ vs ∧ tt σ2 H2 fun b H3 => if b = true then te σ2 H3 Rt else Rf H3)
    (hd : ∀ H L (bs : List β), Same H1 H → H D = some (NSetO w D L) → L.map (·.2) = bs.map enc → NRd K H L → bs.Nodup → (∀ b, b ∈ bs ↔ b ∈ (List.range n).map f) → Q (.ref D) H) :
    kSc1 (addN K w) g tt te vs σ Q J D (upd H1 D (NSetO w D [])) := by
  refine ⟨fun i m H => m = n - i ∧ i ≤ n ∧ Same H1 H ∧ ∃ L, ∃ bs : List β, H D = some (NSetO w D L) ∧ L.map (·.2) = bs.map enc ∧ NRd K H L ∧ bs.Nodup ∧ (∀ b, b ∈ bs ↔ b ∈ (List.range i).map f) ∧ bs.length ≤ i,
    ⟨n, by simp, Nat.zero_le _, same_upd hD, [], [], upd_same, rfl, (fun p hp => nomatch hp), List.nodup_nil, fun s => by simp, Nat.le_refl _⟩, ?_⟩
  rintro i m H ⟨rfl, hi, sm, L, bs, hx, hLb, hr, nd, hm, hl⟩
  by_cases hlt : i < n
  · refine .inr ⟨w0.goes i H hlt (hG H sm), _, fun H' p' => ⟨n - (i + 1), by omega, rfl, hlt, p'⟩, fun x H' hy => ?_⟩
    refine hs i x H H' _ _ hlt sm (w0.yields i H x H' hlt (hG H sm) hy) fun a H4 s4 da => ?_
    have lenL : L.length = bs.length := by simpa using congrArg List.length hLb
    have tk : ∀ L' : List (Addr × PyData), Tk K H4 (upd H4 D (NSetO w D L')) := fun L' => tk_ext (φ := fun h => ∃ es ep t, NTab w h D (L.map fun p : Addr × PyData => (p.1, nkey p.2)) es ep t) (s4 _ _ hx)
    have hr4 : NRd K H4 L := fun p hp => ⟨dpSame s4 _ _ (hr p hp).1, (hr p hp).2⟩
    have hin : (∃ p ∈ L, nkey p.2 = nkey (enc (f i))) ↔ f i ∈ bs := by
      constructor
      · rintro ⟨p, hp, e⟩
        have hp2 : p.2 ∈ bs.map enc := by rw [← hLb]; exact List.mem_map.mpr ⟨p, hp, rfl⟩
        obtain ⟨b, hb, eb⟩ := List.mem_map.mp hp2
        rw [← eb] at e
        rw [← hinj e]
        exact hb
      · intro hb
        have : enc (f i) ∈ L.map (·.2) := by rw [hLb]; exact List.mem_map.mpr ⟨_, hb, rfl⟩
        obtain ⟨p, hp, e⟩ := List.mem_map.mp this
        exact ⟨p, hp, by rw [e]⟩
    refine ⟨a, enc (f i), L, rfl, da, hk _, s4 _ _ hx, hr4, by omega, fun L' c1 c2 => ⟨same_of (sm.trans s4) hD, L', ?_⟩⟩
    have hrd : ∀ p : Addr × PyData, Dp K H4 (.ref p.1) p.2 ∧ KeyD p.2 → Dp K (upd H4 D (NSetO w D L')) (.ref p.1) p.2 ∧ KeyD p.2 := fun p h => ⟨dpTk (tk L') _ _ h.2.nl h.1, h.2⟩
    by_cases c : f i ∈ bs
    · have e := c1 (hin.mpr c)
      subst e
      refine ⟨bs, upd_same, hLb, fun p hp => hrd p (hr4 p hp), nd, fun b => ?_, by omega⟩
      rw [List.range_succ, List.map_append, List.mem_append, hm b]
      refine ⟨.inl, fun q => q.elim id fun z => ?_⟩
      have e : b = f i := by simpa using z
      rw [e]
      exact (hm _).mp c
    · have pm := c2 fun z => c (hin.mp z)
      have pm2 : (L'.map (·.2)).Perm ((f i :: bs).map enc) := by
        have := pm.map (·.2)
        rw [List.map_cons, hLb] at this
        exact this
      obtain ⟨bs', pb, eb⟩ := perm_lift enc pm2 (f i :: bs) rfl
      refine ⟨bs', upd_same, eb.symm, fun p hp => ?_, pb.nodup_iff.mpr (List.nodup_cons.mpr ⟨c, nd⟩), fun b => ?_, by rw [pb.length_eq, List.length_cons]; omega⟩
      · rcases List.mem_cons.mp (pm.mem_iff.mp hp) with e | hp
        · subst e
          exact hrd _ ⟨da, hk _⟩
        · exact hrd p (hr4 p hp)
      · rw [pb.mem_iff, List.mem_cons, hm b, List.range_succ, List.map_append, List.mem_append]
        simp only [List.map_cons, List.map_nil, List.mem_singleton]
        exact or_comm
  · have e : i = n := by omega
    subst e
    exact .inl ⟨w0.stops H (hG H sm), hd H L bs sm hx hLb hr nd hm⟩
end
end Wc
set_option maxRecDepth 100000
set_option maxHeartbeats 4000000
/-! W20: the text by places; contrary, names_in, put. -/
namespace Wc
open PySem PySem.Spec PyProof.Rows L2

/-! ### the text -/
def top (i : Nat) : Stmt := PySem.Challenge.pw_waycircuits_k21_whole_count_by_rows.main.body.getD i (.Pass ⟨0, 0, 0, 0⟩)
abbrev sIsNumber : Stmt := top 8
abbrev sIsWord : Stmt := top 9
abbrev sRises : Stmt := top 10
abbrev sIsLiteral : Stmt := top 12
abbrev sIsClause : Stmt := top 13
abbrev sContrary : Stmt := top 14
abbrev sAreClauses : Stmt := top 16
abbrev sNamesIn : Stmt := top 17
abbrev sLeastName : Stmt := top 19
abbrev sGroups : Stmt := top 20
abbrev sPut : Stmt := top 22
abbrev sNeed : Stmt := top 24
abbrev sIsRule : Stmt := top 25
abbrev sAreNumbers : Stmt := top 26
abbrev sIsRow : Stmt := top 27
abbrev sNeedRows : Stmt := top 28
abbrev sRowsWanted : Stmt := top 29
abbrev sLostWays : Stmt := top 30
abbrev sHolds : Stmt := top 31
abbrev sCountBy : Stmt := top 32
abbrev sShownBy : Stmt := top 33
abbrev sLetsTrail : Stmt := top 34
abbrev sLeastUnit : Stmt := top 36
abbrev sMostCommon : Stmt := top 37
abbrev sWInit : Stmt := inClass (top 38) 0
abbrev sBegin : Stmt := inClass (top 38) 1
abbrev sRowOf : Stmt := inClass (top 38) 2
abbrev sLay : Stmt := inClass (top 38) 3
abbrev sCountOf : Stmt := inClass (top 38) 4
abbrev sRuleOf : Stmt := inClass (top 38) 5
abbrev sPlainRule : Stmt := inClass (top 38) 6
abbrev sTrailOf : Stmt := top 41
abbrev sCounted : Stmt := top 42
abbrev sCInit : Stmt := inClass (top 44) 0
abbrev sAsk : Stmt := inClass (top 44) 4
abbrev sLFeed : Stmt := top 46
abbrev sLDraw : Stmt := top 47
abbrev sLPool : Stmt := top 48
abbrev sLClause : Stmt := top 49
abbrev sLForm : Stmt := top 50
abbrev sLRows : Stmt := top 51
abbrev sLMeets : Stmt := top 52
abbrev sLCount : Stmt := top 53
abbrev sLaw : Stmt := top 54
/-- a def of the module that can be called -/
structure Df (K : PySem.W.Frag) (mg : Str → Option Value) (x : Str) (st : Stmt) (ps : List Str) (f : Addr) (fd : FuncData) : Prop where
  fn : Fun K x x st f fd
  mg : mg x = some (.ref f)
  bd : Binds K fd ps []
/-- the built-in names that are the built-ins' -/
structure Blt (mg : Str → Option Value) : Prop where
  len : mg "len" = none
  all : mg "all" = none
  any : mg "any" = none
  isi : mg "isinstance" = none
  tup : mg "tuple" = none
  srt : mg "sorted" = none
  min : mg "min" = none
  max : mg "max" = none
  zip : mg "zip" = none
  enu : mg "enumerate" = none
  dct : mg "dict" = none
  lst : mg "list" = none
  rng : mg "range" = none
  int : mg "int" = none
  str : mg "str" = none
  bool : mg "bool" = none

section
variable {K : PySem.W.Frag} {H : Hp} {p : Addr}
/-- a new tuple of known items -/
theorem dp_new {vs : List V} {ds : List PyData} (hp : H p = none) (h : DpAll K H vs ds) : Dp K (upd H p (.tup vs)) (.ref p) (.tuple ds) := .tup (SqT.of upd_same) (dpAllSame (same_upd hp) _ _ h)
end
section
variable {P : Program} {w : World} {K : PySem.W.Frag} {mg : Str → Option Value} {base : Heap} {f : Addr} {fd : FuncData}
/-! ### contrary -/
def ctr (l : Lit) : Lit := (l.1, !l.2)
def spContrary (K : PySem.W.Frag) : Sp := fun vs H Q _ => ∃ (v : V) (l : Lit), vs = [v] ∧ Dp K H v (dL l) ∧ ∀ H' y, Same H H' → Dp K H' y (dL (ctr l)) → Q y H'
theorem scContrary : FnScope ["literal", "name", "truth"] ["literal"] (defScope sContrary) := ⟨rfl, rfl, rfl, by decide +kernel, rfl, by decide +kernel, by decide +kernel⟩
theorem ok_contrary (D : Df K mg "contrary" sContrary ["literal"] f fd) : FnOk P w K mg base CX0 1 f fd ["literal"] (spContrary K) := by
  refine D.fn.ok scContrary (fun vs H Q E h => ?_) (fun cdv A outer s H vs Q E hr h => ?_)
  · obtain ⟨v, l, rfl, _⟩ := h
    rfl
  · obtain ⟨v, l, rfl, hd, k⟩ := h
    obtain ⟨a, xs, rfl, ha, dx⟩ := dp_tup hd
    cases dx with
    | cons d1 dx =>
    cases dx with
    | cons d2 dx =>
    cases dx
    cases dp_str d1
    cases dp_bl d2
    refine ⟨_, pss_cons (ps_asg (pv 0) (pg_tup rfl (pgs_cons (pg_name (i := 1) scContrary.nd rfl (Or.inl rfl)) (pgs_cons (pg_name (i := 2) scContrary.nd rfl (Or.inl rfl)) pgs_nil))))
      (pss_one (ps_ret (pe_tup (pa_cons (pv 1) (pa_cons (pe_not (pv 2)) pa_nil))))), ?_⟩
    refine ⟨_, rfl, a, _, rfl, ha, rfl, _, _, rfl, _, _, rfl, rfl, _, rfl, _, rfl, _, rfl, by show 2 ≤ sizeLine; decide, fun p hp => ?_⟩
    exact k _ _ (same_upd hp) (dp_new hp (.cons (.str _) (.cons (.bl _) .nil)))

theorem tyes {σ : L2.St} {H : Hp} {A B : Hp → Prop} (h : A H) : tYes σ H fun b H3 => if b = true then A H3 else B H3 := by
  show (if true = true then A H else B H)
  rw [if_pos rfl]
  exact h
/-! ### names_in -/
/-- no more than twelve clauses of no more than twelve literals -/
def Few (cs : Cs) : Prop := cs.length ≤ 12 ∧ ∀ c ∈ cs, c.length ≤ 12
def namesOf (cs : Cs) : List Str := srtE PyData.str (nub (cs.flatMap fun c => c.map (·.1)))
def spNamesIn (K : PySem.W.Frag) : Sp := fun vs H Q _ => ∃ (v : V) (cs : Cs), vs = [v] ∧ Dp K H v (dS cs) ∧ Few cs ∧ ∀ H' y, Same H H' → Dp K H' y (dN (namesOf cs)) → Q y H'
theorem at_ix {α : Type} {xs : List α} {i : Nat} (hi : i < xs.length) : xs[i]? = some xs[i] := List.getElem?_eq_getElem hi
theorem flat_range {α β : Type} (xs : List α) (F : α → List β) (d : α) : (List.range xs.length).flatMap (fun i => F (xs.getD i d)) = xs.flatMap F := by
  induction xs with
  | nil => rfl
  | cons x xs ih =>
    rw [List.length_cons, List.range_succ_eq_map, List.flatMap_cons, List.flatMap_cons, List.flatMap_map]
    congr 1
theorem map_range {α β : Type} (xs : List α) (F : α → β) (d : α) : (List.range xs.length).map (fun i => F (xs.getD i d)) = xs.map F := by
  induction xs with
  | nil => rfl
  | cons x xs ih =>
    rw [List.length_cons, List.range_succ_eq_map, List.map_cons, List.map_cons, List.map_map]
    congr 1
theorem fmap_range {α β : Type} (xs : List α) (F : α → Option β) (d : α) : (List.range xs.length).filterMap (fun i => F (xs.getD i d)) = xs.filterMap F := by
  induction xs with
  | nil => rfl
  | cons x xs ih =>
    rw [List.length_cons, List.range_succ_eq_map, List.filterMap_cons, List.filterMap_cons, List.filterMap_map]
    have e : ((fun i => F ((x :: xs).getD i d)) ∘ Nat.succ) = fun i => F (xs.getD i d) := rfl
    rw [e, ih]
    rfl
/-- the i-th value, what it reads as -/
theorem dp_at {α : Type} {enc : α → PyData} {H : Hp} {ys : List V} {xs : List α} {i : Nat} {x : V} (d : α) (h : DpAll K H ys (xs.map enc)) (e : ys[i]? = some x) : i < xs.length ∧ Dp K H x (enc (xs.getD i d)) := by
  obtain ⟨d', q1, q2⟩ := dpAt h e
  rw [List.getElem?_map] at q1
  cases q : xs[i]? with
  | none => rw [q] at q1; cases q1
  | some a =>
    rw [q] at q1
    cases q1
    rw [List.getD_eq_getElem?_getD, q]
    exact ⟨(List.getElem?_eq_some_iff.mp q).1, q2⟩
theorem mem_getD {α : Type} {xs : List α} {i : Nat} (d : α) (hi : i < xs.length) : xs.getD i d ∈ xs := by
  rw [List.getD_eq_getElem?_getD, at_ix hi]
  exact List.getElem_mem hi
theorem dp_lit {H : Hp} {v : V} {l : Lit} (h : Dp K H v (dL l)) : ∃ a, v = .ref a ∧ SqT K H a [.str l.1, .bl l.2] := by
  obtain ⟨a, xs, rfl, ha, dx⟩ := dp_tup h
  cases dx with
  | cons d1 dx =>
  cases dx with
  | cons d2 dx =>
  cases dx
  cases dp_str d1
  cases dp_bl d2
  exact ⟨a, rfl, ha⟩
theorem scNamesIn : FnScope ["clauses", "clause", "name", "truth"] ["clauses"] (defScope sNamesIn) := ⟨rfl, rfl, rfl, by decide +kernel, rfl, by decide +kernel, by decide +kernel⟩
theorem ok_names_in (B : Blt mg) (D : Df K mg "names_in" sNamesIn ["clauses"] f fd) : FnOk P w K mg base CX0 1 f fd ["clauses"] (spNamesIn K) := by
  refine D.fn.ok scNamesIn (fun vs H Q E h => ?_) (fun cdv A outer s H vs Q E hr h => ?_)
  · obtain ⟨v, l, rfl, _⟩ := h
    rfl
  · obtain ⟨v, cs, rfl, hd, few, k⟩ := h
    obtain ⟨a, xs, rfl, ha, dx⟩ := dp_tup hd
    have lx : xs.length = cs.length := by have := dpLen dx; simpa using this
    refine ⟨_, pss_one (ps_ret (pe_callTy call_tuple_of (by rfl) B.tup (by decide +kernel) (pa_cons (pe_callB (cr_sortedTS rfl (Nat.lt_of_le_of_lt (Nat.add_le_add_left (by decide : 70 ≤ 16 * 0 + 200) _) hr.un)) (by rfl) B.srt (by decide +kernel) (pa_cons
      (pe_sc2 (own := [("clause", 1), ("name", 2), ("truth", 3)]) (vs1 := [2, 3]) (g := gName 1) (tt := tYes) (wi1 := iTup K (tVar 1)) (g1 := gTup K 2 (gCons (gName 2) (gCons (gName 3) gNil))) (tt1 := tYes) (te := tVar 2) (setKdT _ _ _ _) rfl scNamesIn.nd (pi_tup (pv 0))
        (blkOk_by (N := ["clauses", "clause", "name", "truth"]) (sc := defScope sNamesIn) (by decide +kernel)) (by decide)
        (fun _ _ _ _ _ => pg_name (i := 1) scNamesIn.nd rfl (Or.inl rfl)) (fun _ _ _ _ _ => pts_nil) (fun _ _ _ _ _ => pi_tup (pv 1))
        (fun _ _ _ _ _ => pg_tup rfl (pgs_cons (pg_name (i := 2) scNamesIn.nd rfl (Or.inl rfl)) (pgs_cons (pg_name (i := 3) scNamesIn.nd rfl (Or.inl rfl)) pgs_nil))) (fun _ _ _ _ _ => pts_nil)
        (fun _ _ _ _ _ => pv 2)) pa_nil)) pa_nil))), ?_⟩
    refine ⟨_, rfl, a, rfl, ⟨_, ha⟩, fun D hD => scTOut (walk_tup (xs := xs)) hD 12 (by have := few.1; omega) (fun H' e => seqT e ha) (fun i => (cs.getD i []).map (·.1)) ?_ ?_⟩
    · rintro i x _ H2 ys Nx hi sm hD1 nd hl ⟨rfl, hx⟩ hN
      obtain ⟨hic, dxi⟩ := dp_at (enc := dC) [] dx hx
      obtain ⟨b, zs, rfl, hb, dz⟩ := dp_tup dxi
      have hc := few.2 _ (mem_getD [] hic)
      have lz : zs.length = (cs.getD i []).length := by have := dpLen dz; simpa using this
      refine ⟨rfl, tyes ⟨_, rfl, b, rfl, ⟨_, seqT sm hb⟩, scTIn (H1 := H) (walk_tup (xs := zs)) hD sm hD1 nd (by omega) (fun H' e => seqT e hb) (fun j => ((cs.getD i []).getD j ("", false)).1) ?_ ?_⟩⟩
      · rintro j x _ H3 Rt Rf hj sm3 ⟨rfl, hz⟩ hRt
        obtain ⟨hjc, dl⟩ := dp_at (enc := dL) ("", false) dz hz
        obtain ⟨c, rfl, hc⟩ := dp_lit dl
        exact ⟨c, _, rfl, seqT sm3 hc, rfl, _, _, rfl, _, _, rfl, rfl, rfl, tyes ⟨_, rfl, hRt _ (Same.refl _)⟩⟩
      · rintro H3 zs' sm3 hD3 nd3 hm3 hl3
        refine hN H3 zs' sm3 hD3 nd3 (fun t => ?_) (by omega)
        rw [hm3, lz, map_range (cs.getD i []) (fun l => l.1)]
    · intro H1 ys sm hD1 nd hm
      refine ⟨D, ys, rfl, hD1, fun zs p pm hp => ?_⟩
      have e : (zs.mergeSort fun x y => !PySem.W.dataLt (.str y) (.str x)) = namesOf cs := by
        refine srtE_unique ordN (pm.trans (nodup_perm nd (nub_nodup _) fun t => ?_))
        rw [hm, mem_nub, lx, flat_range cs (fun c => c.map (·.1))]
      rw [e]
      refine ⟨p, _, rfl, .inl ⟨SqL.of upd_same, fun q hq => ?_⟩⟩
      have hp' : H p = none := sm.free hp
      refine k _ _ (fun b o ho => ?_) (.tup (SqT.of upd_same) ?_)
      · have n1 : b ≠ p := ne_of_none ho hp'
        have h1 : upd H1 p (.lst ((namesOf cs).map V.str)) b = some o := by rw [upd_ne n1]; exact sm _ _ ho
        rw [upd_ne (ne_of_none h1 hq)]
        exact h1
      · exact dpAll_map _ _ _ fun x _ => .str x
end
end Wc
set_option maxRecDepth 100000
set_option maxHeartbeats 4000000
/-! W21: put. -/
namespace Wc
open PySem PySem.Spec PyProof.Rows L2

/-! ### places in the text -/
def retOf : Stmt → Expr
  | .Return (some e) _ => e
  | .Expr e _ => e
  | .Assign _ e _ => e
  | _ => .Constant .none 0 ⟨0, 0, 0, 0⟩
def arg0 : Expr → Expr
  | .Call _ (e :: _) _ _ => e
  | e => e
def scOf : Expr → Scope
  | .SetComp _ _ sc _ => sc
  | .ListComp _ _ sc _ => sc
  | .DictComp _ _ _ sc _ => sc
  | _ => { kind := .function, names := [], isGenerator := false, isCoroutine := false }
def eltOf : Expr → Expr
  | .SetComp e _ _ _ => e
  | .ListComp e _ _ _ => e
  | .DictComp _ e _ _ _ => e
  | e => e
/-- a block's scope as it stands in a def whose scope is outer -/
def rlb (sc outer : Scope) : Scope := relabel sc (PySem.W.envX "" outer 0 0 .none [])
def stAt (s : Stmt) (i : Nat) : Stmt := (defBody s).getD i (.Pass ⟨0, 0, 0, 0⟩)
def rTupOf (K : PySem.W.Frag) : List V → Hp → VK → Prop := fun xs H Q => ∃ p ys, xs = [.ref p] ∧ ((SqL K H p ys ∧ ∀ l, H l = none → Q (.ref l) (upd H l (.tup ys))) ∨ (SqT K H p ys ∧ Q (.ref p) H))
section
variable {P : Program} {w : World} {K : PySem.W.Frag} {mg : Str → Option Value} {base : Heap} {f f1 : Addr} {fd fd1 : FuncData}
theorem hu0 {k n : Nat} {A : Around} (hr : Room k A) (h : n ≤ 200) : A.units + n < cLine := Nat.lt_of_le_of_lt (Nat.add_le_add (Nat.le_add_right _ _) h) hr.un
/-! ### put -/
def putC (cs : Cs) (l : Lit) : Cs := srtE dC (nub ((cs.filter fun c => !decide (l ∈ c)).map fun c => c.filter fun x => !decide (x = ctr l)))
def spPut (K : PySem.W.Frag) : Sp := fun vs H Q _ => ∃ (v u : V) (cs : Cs) (l : Lit), vs = [v, u] ∧ Dp K H v (dS cs) ∧ Dp K H u (dL l) ∧ OkS cs ∧ l.1 ∈ pool ∧ Few cs ∧ ∀ H' y, Same H H' → Dp K H' y (dS (putC cs l)) → Q y H'
abbrev nPut : List Str := ["clauses", "literal", "other", "left", "clause", "one"]
theorem scPut : FnScope nPut ["clauses", "literal"] (defScope sPut) := ⟨rfl, rfl, rfl, by decide +kernel, rfl, by decide +kernel, by decide +kernel⟩
abbrev scPut3 : Scope := scOf (arg0 (arg0 (retOf (stAt sPut 2))))
abbrev scPut4 : Scope := scOf (arg0 (eltOf (arg0 (arg0 (retOf (stAt sPut 2))))))
theorem same_put {H1 H : Hp} (e : Same H1 H) {q : Addr} {u : HO} (hq : H q = none) : Same H1 (upd H q u) := e.trans (same_upd hq)
theorem fmap_no {α β : Type} (p : α → Prop) [DecidablePred p] (g : α → β) : ∀ xs : List α, xs.filterMap (fun c => if p c then none else some (g c)) = (xs.filter fun c => !decide (p c)).map g
  | [] => rfl
  | c :: cs => by
    rw [List.filterMap_cons, List.filter_cons, fmap_no p g cs]
    by_cases h : p c
    · simp [h]
    · simp [h]
theorem fmap_yes {α β : Type} (p : α → Prop) [DecidablePred p] (g : α → β) : ∀ xs : List α, xs.filterMap (fun c => if p c then some (g c) else none) = (xs.filter fun c => decide (p c)).map g
  | [] => rfl
  | c :: cs => by
    rw [List.filterMap_cons, List.filter_cons, fmap_yes p g cs]
    by_cases h : p c
    · simp [h]
    · simp [h]
theorem any_iff {α : Type} [DecidableEq α] {enc : α → PyData} (h : ∀ a b, PyData.eqv (enc a) (enc b) = decide (a = b)) {xs : List α} {x : α} : ((xs.map enc).any fun z => PyData.eqv z (enc x)) = true ↔ x ∈ xs := by
  rw [List.any_eq_true]
  constructor
  · rintro ⟨d, hd, e⟩
    obtain ⟨a, ha, rfl⟩ := List.mem_map.mp hd
    rw [h, decide_eq_true_iff] at e
    rw [← e]
    exact ha
  · intro hx
    exact ⟨enc x, List.mem_map.mpr ⟨x, hx, rfl⟩, by rw [h]; exact decide_eq_true rfl⟩
theorem any_no {α : Type} [DecidableEq α] {enc : α → PyData} (h : ∀ a b, PyData.eqv (enc a) (enc b) = decide (a = b)) {xs : List α} {x : α} (n : x ∉ xs) : ((xs.map enc).any fun z => PyData.eqv z (enc x)) = false := Bool.eq_false_iff.mpr fun q => n ((any_iff h).mp q)
theorem ok_put (B : Blt mg) (D1 : Df K mg "contrary" sContrary ["literal"] f1 fd1) (D : Df K mg "put" sPut ["clauses", "literal"] f fd) : FnOk P w K mg base CX0 2 f fd ["clauses", "literal"] (spPut K) := by
  have G1 : FnOk P w K mg base CX0 1 f1 fd1 ["literal"] (spContrary K) := ok_contrary D1
  refine D.fn.ok scPut (fun vs H Q E h => ?_) (fun cdv A outer s H vs Q E hr h => ?_)
  · obtain ⟨v, u, cs, l, rfl, _⟩ := h
    rfl
  · obtain ⟨v, u, cs, l, rfl, hd, hl, ok, okl, few, k⟩ := h
    obtain ⟨a, xs, rfl, ha, dx⟩ := dp_tup hd
    have lx : xs.length = cs.length := by have := dpLen dx; simpa using this
    refine ⟨_, pss_cons (ps_set (i := 2) scPut.nd rfl (Or.inr rfl) (pe_call G1 hr rfl D1.mg D1.fn.kp D1.bd .nil pass0 (pa_cons (pv 1) pa_nil)))
      (pss_cons (ps_setLc (i := 3) (own := [("clause", 4)]) (g := gName 4) (tt := tTest (tOp (rInT K true) (tVar 1) (tVar 4))) (te := tVar 4) rfl scPut.nd rfl rfl (sw_true rfl rfl rfl (by decide +kernel)) (pi_tup (pv 0))
          (blkOk_by (N := nPut) (sc := defScope sPut) (by decide +kernel)) (fun _ _ _ _ _ => pg_name (i := 4) scPut.nd rfl (Or.inl rfl)) (fun _ _ _ _ _ => pts_one (pt_cmpR (op_notInT (hu0 hr (by decide))) (pv 1) (pv 4) (by rfl))) (fun _ _ _ _ _ => pv 4))
      (pss_one (ps_ret (pe_callTy call_tuple_of (by rfl) B.tup (by decide +kernel) (pa_cons (pe_callB (cr_sortedNS rfl (hu0 hr (by decide))) (by rfl) B.srt (by decide +kernel) (pa_cons
        (pe_sc1 (own := [("clause", 4)]) (g := gName 4) (tt := tYes) (te := tCB (rTupOf K) (tCons (tLc (iTup K (tVar 4)) (gName 5) (tTest (tOp (rNeD K) (tVar 5) (tVar 2))) (tVar 5) [5]) tNil)) (setKdN _ _ _ _ (hu0 hr (by decide))) rfl scPut.nd (pi_list (pv 3))
          (blkOk_by (N := nPut) (sc := defScope sPut) (by decide +kernel)) (fun _ _ _ _ _ => pg_name (i := 4) scPut.nd rfl (Or.inl rfl)) (fun _ _ _ _ _ => pts_nil)
          (fun _ _ _ _ _ => pe_callTy call_tuple_of (by rfl) B.tup (by decide +kernel) (pa_cons
            (pe_lc (own := [("one", 5)]) (g := gName 5) (tt := tTest (tOp (rNeD K) (tVar 5) (tVar 2))) (te := tVar 5) rfl scPut.nd (pi_tup (pv 4))
              (show BlkOk nPut (rlb scPut3 (defScope sPut)) scPut4 [("one", 5)] from blkOk_by (by decide +kernel)) (fun _ _ _ _ _ => pg_name (i := 5) scPut.nd rfl (Or.inl rfl)) (fun _ _ _ _ _ => pts_one (pt_cmpR (op_neD (hu0 hr (by decide))) (pv 5) (pv 2) (nomark _))) (fun _ _ _ _ _ => pv 5)) pa_nil))) pa_nil)) pa_nil))))), ?_⟩
    refine ⟨_, rfl, _, l, rfl, hl, fun H1 y1 s1 d1 => ?_⟩
    refine ⟨_, rfl, a, rfl, ⟨_, seqT s1 ha⟩, fun D hD => lcW (K := K) (walk_tup (xs := xs)) hD (by rw [lx]; have := few.1; exact Nat.le_trans this (by decide)) (fun H' e => seqT e (seqT s1 ha))
      (fun i => if l ∈ cs.getD i [] then none else some (dC (cs.getD i []))) (fun i d _ e => by split at e <;> cases e; exact nl_dC _) ?_ ?_⟩
    · rintro i x _ H2 Rt Rf hi sm ⟨rfl, hx⟩ hT hF
      obtain ⟨hic, dxi⟩ := dp_at (enc := dC) [] (dpAllSame (s1.trans sm) _ _ dx) hx
      refine ⟨rfl, ⟨_, rfl, _, rfl, dL l, _, dpSame (s1.trans sm) _ _ hl, dxi, sh_dL okl, sh_dC (ok _ (mem_getD [] hic)), _, rfl, ?_⟩⟩
      by_cases c : l ∈ cs.getD i []
      · rw [(any_iff eqv_dL).mpr c]
        exact iteF (hF _ (if_pos c) (Same.refl _))
      · rw [any_no eqv_dL c]
        exact iteT ⟨_, rfl, hT _ _ _ (if_neg c) (Same.refl _) dxi⟩
    · intro H2 acc sm hD2 da
      rw [lx, fmap_range cs (fun c => if l ∈ c then none else some (dC c)) [], fmap_no (fun c : Cl => l ∈ c) dC] at da
      have la := dpLen da
      rw [List.length_map] at la
      have s2 := s1.trans sm
      generalize hls : (cs.filter fun c => !decide (l ∈ c)) = ls at da la
      have l12 : ls.length ≤ 12 := by rw [← hls]; exact Nat.le_trans (List.length_filter_le _ _) few.1
      have okl2 : OkS ls := fun c hc => ok c (by rw [← hls] at hc; exact (List.mem_filter.mp hc).1)
      have fewl : ∀ c ∈ ls, c.length ≤ 12 := fun c hc => few.2 c (by rw [← hls] at hc; exact (List.mem_filter.mp hc).1)
      refine ⟨_, rfl, D, rfl, ⟨_, SqL.of hD2⟩, fun D' hD' => scNOut (K := K) (β := Cl) nkey_dC_inj kd_dC (walk_list (xs := acc)) hD' (by omega) (fun H' e => Same.seq e (SqL.of hD2)) (fun i => (ls.getD i []).filter fun x => !decide (x = ctr l)) ?_ ?_⟩
      · rintro i x _ H3 Rt Rf hi sm3 ⟨rfl, hx⟩ hT
        obtain ⟨hic, dxi⟩ := dp_at (enc := dC) [] (dpAllSame sm3 _ _ da) hx
        obtain ⟨b, zs, rfl, hb, dz⟩ := dp_tup dxi
        have lz : zs.length = (ls.getD i []).length := by have := dpLen dz; simpa using this
        refine ⟨rfl, tyes ?_⟩
        refine ⟨_, rfl, b, rfl, ⟨_, hb⟩, fun D3 hD3 => lcW (K := K) (walk_tup (xs := zs)) hD3 (by rw [lz]; exact Nat.le_trans (fewl _ (mem_getD [] hic)) (by decide)) (fun H' e => seqT e hb)
          (fun j => if (ls.getD i []).getD j ("", false) = ctr l then none else some (dL ((ls.getD i []).getD j ("", false)))) (fun j d _ e => by split at e <;> cases e; exact nl_dL _) ?_ ?_⟩
        · rintro j y _ H4 Rt2 Rf2 hj sm4 ⟨rfl, hy⟩ hT2 hF2
          obtain ⟨hjc, dy⟩ := dp_at (enc := dL) ("", false) (dpAllSame sm4 _ _ dz) hy
          have hmem : ((ls.getD i []).getD j ("", false)).1 ∈ pool := okl2 _ (mem_getD [] hic) _ (mem_getD _ hjc)
          refine ⟨rfl, ⟨_, rfl, _, rfl, _, dL (ctr l), dy, dpSame ((sm.trans sm3).trans sm4) _ _ d1, sh_dL hmem, sh_dL okl, _, rfl, ?_⟩⟩
          by_cases c : (ls.getD i []).getD j ("", false) = ctr l
          · rw [eqv_dL, decide_eq_true c]
            exact iteF (hF2 _ (if_pos c) (Same.refl _))
          · rw [eqv_dL, decide_eq_false c]
            exact iteT ⟨_, rfl, hT2 _ _ _ (if_neg c) (Same.refl _) dy⟩
        · intro H4 acc2 sm4 hD4 da4
          rw [lz, fmap_range (ls.getD i []) (fun x => if x = ctr l then none else some (dL x)) ("", false), fmap_no (fun x : Lit => x = ctr l) dL] at da4
          exact ⟨D3, acc2, rfl, .inl ⟨SqL.of hD4, fun q hq => hT q _ (same_put sm4 hq) (dp_new hq da4)⟩⟩
      · intro H3 L bs sm3 hD3 hL hr nd hm
        refine ⟨D', L, rfl, hD3, fun p hp => (hr p hp).1, by rw [hL]; exact sortOk_dC bs, fun M p pm hp => ?_⟩
        obtain ⟨bs', pb, eb⟩ := perm_lift dC (show (M.map (·.2)).Perm (bs.map dC) from by rw [← hL]; exact pm.map (·.2)) bs rfl
        have hM : (srt (M.map fun q => (V.ref q.1, q.2))).map (·.2) = (putC cs l).map dC := by
          rw [srt_snd, List.map_map]
          have e1 : (M.map ((fun x : V × PyData => x.2) ∘ fun q : Addr × PyData => (V.ref q.1, q.2))) = bs'.map dC := eb.symm
          rw [e1, srtD_map]
          refine congrArg (List.map dC) (srtE_unique ordC (pb.trans (nodup_perm nd (nub_nodup _) fun c => ?_)))
          rw [hm, mem_nub, la, map_range ls (fun c => c.filter fun x => !decide (x = ctr l)), hls]
        refine ⟨p, _, rfl, .inl ⟨SqL.of upd_same, fun q hq => ?_⟩⟩
        refine k _ _ (same_put (same_put (s2.trans sm3) hp) hq) ?_
        have all : ∀ z ∈ srt (M.map fun q => (V.ref q.1, q.2)), Dp K H3 z.1 z.2 := fun z hz => by
          obtain ⟨y, hy, rfl⟩ := List.mem_map.mp ((srt_perm _).mem_iff.mp hz)
          exact (hr y (pm.mem_iff.mp hy)).1
        have da5 : DpAll K H3 ((srt (M.map fun q => (V.ref q.1, q.2))).map (·.1)) ((putC cs l).map dC) := by
          rw [← hM]
          exact dpAll_map (fun z : V × PyData => z.1) (fun z => z.2) _ all
        exact dp_new hq (dpAllSame (same_upd hp) _ _ da5)
end
end Wc
set_option maxRecDepth 100000
set_option maxHeartbeats 4000000
/-! W22: is_number, is_word, rises, is_literal, is_clause, are_clauses. -/
namespace Wc
open PySem PySem.Spec PyProof.Rows L2 RZ
open PySem.W (dataLt alike)

theorem ifT {c : Bool} {A B : Prop} (h : c = true) (a : A) : if c = true then A else B := by rw [if_pos h]; exact a
theorem ifF {c : Bool} {A B : Prop} (h : c = false) (b : B) : if c = true then A else B := by rw [h, if_neg Bool.false_ne_true]; exact b
theorem tyx_tup {K : PySem.W.Frag} {H : Hp} {a : Addr} {xs : List V} (h : SqT K H a xs) : TyX K H (.ref a) (.type "tuple") := by
  rcases h with (h | ⟨o, h⟩) | ⟨o, its, n, h1, h2, _⟩
  · exact .base (.tup h)
  · exact .fTuple h
  · exact .kTuple h1 h2
/-- what the module's constants hold -/
structure Cst (mg : Str → Option Value) : Prop where
  lett : ∃ t, mg "LETTERS" = some (.str "abcdefghijklmnopqrstuvwxyz" t)
  long : ∃ t, mg "LONGEST" = some (.int 8 t)
section
variable {P : Program} {w : World} {K : PySem.W.Frag} {mg : Str → Option Value} {base : Heap} {f f1 f2 f3 : Addr} {fd fd1 fd2 fd3 : FuncData}
/-! ### is_number -/
def spIsNumber : Sp := fun vs H Q _ => ∃ i : Int, vs = [.int i] ∧ Q (.bl true) H
theorem scIsNumber : FnScope ["thing"] ["thing"] (defScope sIsNumber) := ⟨rfl, rfl, rfl, by decide +kernel, rfl, by decide +kernel, by decide +kernel⟩
theorem ok_is_number (B : Blt mg) (D : Df K mg "is_number" sIsNumber ["thing"] f fd) : FnOk P w K mg base CX0 1 f fd ["thing"] spIsNumber := by
  refine D.fn.ok scIsNumber (fun vs H Q E h => ?_) (fun cdv A outer s H vs Q E hr h => ?_)
  · obtain ⟨i, rfl, _⟩ := h
    rfl
  · obtain ⟨i, rfl, k⟩ := h
    refine ⟨_, pss_one (ps_ret (pe_and (pe_callB call_isi (by rfl) B.isi (by decide +kernel) (pa_cons (pv 0) (pa_cons (pe_bltn (by rfl) B.int (by decide +kernel) (v := .ty "int") rfl) pa_nil)))
      (pe_one (pe_not (pe_callB call_isi (by rfl) B.isi (by decide +kernel) (pa_cons (pv 0) (pa_cons (pe_bltn (by rfl) B.bool (by decide +kernel) (v := .ty "bool") rfl) pa_nil))))))), ?_⟩
    exact ⟨_, rfl, _, _, .type "int", .type "int", true, rfl, .ty _, .base (.int _), kit_ty (by decide +kernel), true, rfl, iteT ⟨_, rfl, _, _, .type "int", .type "bool", false, rfl, .ty _, .base (.int _), kit_ty (by decide +kernel), false, rfl, k⟩⟩
/-! ### all of a comprehension that gives True -/
theorem all_true {H : Hp} : ∀ {n : Nat} {acc : List V}, DpAll K H acc ((List.range n).filterMap fun _ => some (.bool true)) → acc = (List.replicate n true).map V.bl := by
  have key : ∀ (n : Nat), (List.range n).filterMap (fun _ => some (PyData.bool true)) = List.replicate n (PyData.bool true) := fun n => by
    induction n with
    | zero => rfl
    | succ n ih => rw [filterMap_range_succ, ih, List.replicate_succ']; rfl
  intro n acc h
  rw [key] at h
  clear key
  induction n generalizing acc with
  | zero => cases h; rfl
  | succ n ih =>
    rw [List.replicate_succ] at h ⊢
    cases h with
    | cons h1 h2 =>
      cases dp_bl h1
      rw [ih h2]
      rfl
theorem all_rep (n : Nat) : (List.replicate n true).all id = true := by simp
/-! ### is_word -/
def spIsWord : Sp := fun vs H Q _ => ∃ x : Str, vs = [.str x] ∧ x ∈ pool ∧ ∀ H', Same H H' → Q (.bl true) H'
theorem pool_len : ∀ x ∈ pool, 1 ≤ x.length ∧ x.length ≤ 8 := by decide +kernel
theorem pool_let : ∀ x ∈ pool, ∀ c ∈ x.cps.toList, c ∈ ("abcdefghijklmnopqrstuvwxyz" : Str).cps.toList := by decide +kernel
theorem scIsWord : FnScope ["thing", "sign"] ["thing"] (defScope sIsWord) := ⟨rfl, rfl, rfl, by decide +kernel, rfl, by decide +kernel, by decide +kernel⟩
theorem ok_is_word (B : Blt mg) (C : Cst mg) (D : Df K mg "is_word" sIsWord ["thing"] f fd) : FnOk P w K mg base CX0 1 f fd ["thing"] spIsWord := by
  obtain ⟨tl, hlett⟩ := C.lett
  obtain ⟨tn, hlong⟩ := C.long
  refine D.fn.ok scIsWord (fun vs H Q E h => ?_) (fun cdv A outer s H vs Q E hr h => ?_)
  · obtain ⟨i, rfl, _⟩ := h
    rfl
  · obtain ⟨x, rfl, hp, k⟩ := h
    have hl := pool_len x hp
    have hsz : x.length ≤ sizeLine := Nat.le_trans hl.2 (by decide)
    refine ⟨_, pss_cons (ps_if (PW.pt (pw_or (pt_not (pt_val (pe_callB call_isi (by rfl) B.isi (by decide +kernel) (pa_cons (pv 0) (pa_cons (pe_bltn (by rfl) B.str (by decide +kernel) (v := .ty "str") rfl) pa_nil)))))
        (pw_or1 (pt_not (pt_chain op_le op_le pe_int (pe_callB call_len_str (by rfl) B.len PySem.boot_len (pa_cons (pv 0) pa_nil)) (pe_glob (v := .int 8) rfl hlong ⟨tn, rfl⟩)))))) (pss_one (ps_ret pe_bl)) pss_nil)
      (pss_one (ps_ret (pe_callB (cr_all rfl) (by rfl) B.all (by decide +kernel) (pa_cons
        (pe_lc (own := [("sign", 1)]) (g := gName 1) (tt := tYes) rfl scIsWord.nd (pi_str (pv 0)) (blkOk_by (N := ["thing", "sign"]) (sc := defScope sIsWord) (by decide +kernel)) (fun _ _ _ _ _ => pg_name (i := 1) scIsWord.nd rfl (Or.inl rfl)) (fun _ _ _ _ _ => pts_nil)
          (fun _ _ _ _ _ => pe_cmpR op_in_sign (pv 1) (pe_glob (v := .str "abcdefghijklmnopqrstuvwxyz") rfl hlett ⟨tl, rfl⟩) (by rfl))) pa_nil)))), ?_⟩
    refine ⟨_, rfl, _, _, .type "str", .type "str", true, rfl, .ty _, .base (.str _), kit_ty (by decide +kernel), true, rfl, iteF ?_⟩
    refine ⟨_, rfl, _, rfl, hsz, _, _, rfl, rfl, _, rfl, ifT (decide_eq_true (by have := hl.1; omega)) ⟨_, _, rfl, rfl, _, rfl, ?_⟩⟩
    rw [decide_eq_true (show ((x.length : Nat) : Int) ≤ 8 from by have := hl.2; omega)]
    refine iteF ?_
    refine ⟨_, rfl, x, rfl, fun D hD => lcW (K := K) (walk_str (z := x)) hD (by exact hsz) (fun _ _ => trivial) (fun _ => some (.bool true)) (fun i d _ e => by cases e; rfl) ?_ ?_⟩
    · rintro i v _ H2 Rt Rf hi sm ⟨rfl, c, hc, rfl⟩ hT _
      refine ⟨rfl, tyes ⟨_, rfl, c, _, rfl, rfl, ?_⟩⟩
      rw [decide_eq_true (pool_let x hp c (by rw [Array.mem_toList_iff]; exact Array.mem_of_getElem? hc))]
      exact hT _ _ _ rfl (Same.refl _) (.bl _)
    · intro H2 acc sm hD2 da
      have e := all_true da
      subst e
      refine ⟨D, _, rfl, SqL.of hD2, ?_⟩
      rw [all_rep]
      exact k _ sm

/-! ### rises -/
def spRises (K : PySem.W.Frag) : Sp := fun vs H Q _ => ∃ (a : Addr) (xs : List V) (ds : List PyData), vs = [.ref a] ∧ (SqL K H a xs ∨ SqT K H a xs) ∧ DpAll K H xs ds ∧ (∀ d ∈ ds, ∀ e ∈ ds, alike d e = true) ∧ (∀ d ∈ ds, d ≠ .none ∧ d.depth ≤ 64) ∧ ds.Pairwise (fun d e => dataLt d e = true) ∧ xs.length ≤ 1000 ∧ ∀ H', Same H H' → Q (.bl true) H'
theorem scRises : FnScope ["some", "one", "other"] ["some"] (defScope sRises) := ⟨rfl, rfl, rfl, by decide +kernel, rfl, by decide +kernel, by decide +kernel⟩
theorem cut1 (xs : List V) : cutV xs (some 1) none = xs.drop 1 := by
  unfold cutV
  have e : HT.sIx xs.length 0 (some 1) = min 1 xs.length := HT.sIx_nat xs.length 0 1
  rw [e, HT.sIx_none]
  cases xs with
  | nil => rfl
  | cons x xs =>
    have e2 : min 1 (x :: xs).length = 1 := by rw [List.length_cons]; omega
    rw [e2]
    refine List.take_of_length_le ?_
    rw [List.length_drop]
    omega
theorem pair_next {ds : List PyData} (h : ds.Pairwise (fun d e => dataLt d e = true)) {i : Nat} {d e : PyData} (h1 : ds[i]? = some d) (h2 : ds[i + 1]? = some e) : dataLt d e = true := by
  obtain ⟨a1, rfl⟩ := List.getElem?_eq_some_iff.mp h1
  obtain ⟨a2, rfl⟩ := List.getElem?_eq_some_iff.mp h2
  exact List.pairwise_iff_getElem.mp h i (i + 1) a1 a2 (Nat.lt_succ_self i)
theorem ok_rises (B : Blt mg) (D : Df K mg "rises" sRises ["some"] f fd) : FnOk P w K mg base CX0 1 f fd ["some"] (spRises K) := by
  refine D.fn.ok scRises (fun vs H Q E h => ?_) (fun cdv A outer s H vs Q E hr h => ?_)
  · obtain ⟨a, xs, ds, rfl, _⟩ := h
    rfl
  · obtain ⟨a, xs, ds, rfl, ha, dx, al, nn, pw, hl, k⟩ := h
    refine ⟨_, pss_one (ps_ret (pe_callB (cr_all rfl) (by rfl) B.all (by decide +kernel) (pa_cons
        (pe_lc (own := [("one", 1), ("other", 2)]) (g := gTup K 2 (gCons (gName 1) (gCons (gName 2) gNil))) (tt := tYes) (te := tOp (rLtD K) (tVar 1) (tVar 2)) rfl scRises.nd
          (pi_zipA rfl B.zip (pa_cons (pv 0) (pa_cons (pe_slice (SlR.or sl_list sl_tupA) (pv 0) (po_some pe_int) po_none) pa_nil)))
          (blkOk_by (N := ["some", "one", "other"]) (sc := defScope sRises) (by decide +kernel))
          (fun _ _ _ _ _ => pg_tup rfl (pgs_cons (pg_name (i := 1) scRises.nd rfl (Or.inl rfl)) (pgs_cons (pg_name (i := 2) scRises.nd rfl (Or.inl rfl)) pgs_nil))) (fun _ _ _ _ _ => pts_nil)
          (fun _ _ _ _ _ => pe_cmpR (op_ltD (hu0 hr (by decide))) (pv 1) (pv 2) (nomark _))) pa_nil))), ?_⟩
    -- the walk over the pairs, from a heap H1 at which both are there
    have core : ∀ (J : It) (G : Hp → Prop) (H1 : Hp), Walk J (min xs.length (xs.drop 1).length) G (YPair (fun i => xs[i]?) (fun i => (xs.drop 1)[i]?)) → (∀ H', Same H1 H' → G H') → Same H H1 →
        ∀ D, H1 D = none → ∃ W : Nat → Nat → Hp → Prop, (∃ m, W 0 m (upd H1 D (.lst []))) ∧ ∀ i m H, W i m H →
          (J.stop i H ∧ tCB (rAll K) (fun _ H2 Q2 => Q2 [.ref D] H2) (L2.start ["some", "one", "other"] [V.ref a]) H Q) ∨ (J.go i H ∧ ∃ Nx : Hp → Prop, (∀ H', Nx H' → ∃ m', m' < m ∧ W (i + 1) m' H') ∧ ∀ x H', J.yld i H x H' → gTup K 2 (gCons (gName 1) (gCons (gName 2) gNil)) x (wipe (L2.start ["some", "one", "other"] [V.ref a]) [1, 2]) H' fun σ2 H2 => wipe σ2 [1, 2] = wipe (L2.start ["some", "one", "other"] [V.ref a]) [1, 2] ∧ tYes σ2 H2 fun b H3 =>
            if b = true then tOp (rLtD K) (tVar 1) (tVar 2) σ2 H3 fun y H4 => ∃ acc, H4 D = some (.lst acc) ∧ acc.length < sizeLine ∧ Nx (upd H4 D (.lst (acc ++ [y]))) else Nx H3) := by
      intro J G H1 W1 hG s1 D hD
      refine lcW (K := K) W1 hD (by have : min xs.length (xs.drop 1).length ≤ 1000 := by omega
                                    exact Nat.le_trans this (by decide)) hG (fun _ => some (.bool true)) (fun i d _ e => by cases e; rfl) ?_ ?_
      · rintro i v H2 H3 Rt Rf hi sm ⟨T, x, y, rfl, hT, rfl, hx, hy⟩ hRt _
        have hy' : xs[i + 1]? = some y := by
          have hy2 : (xs.drop 1)[i]? = some y := hy
          rw [List.getElem?_drop] at hy2
          rw [Nat.add_comm]
          exact hy2
        obtain ⟨d, e1, d1⟩ := dpAt dx hx
        obtain ⟨e, e2, d2⟩ := dpAt dx hy'
        have s3 : Same H (upd H2 T (.tup [x, y])) := same_put (s1.trans sm) hT
        refine ⟨T, _, rfl, SqT.of upd_same, rfl, _, _, rfl, _, _, rfl, rfl, rfl, tyes ⟨_, rfl, _, rfl, d, e, dpSame s3 _ _ d1, dpSame s3 _ _ d2, al d (List.mem_of_getElem? e1) e (List.mem_of_getElem? e2), (nn d (List.mem_of_getElem? e1)).1, (nn d (List.mem_of_getElem? e1)).2, ?_⟩⟩
        rw [pair_next pw e1 e2]
        exact hRt _ _ _ rfl (same_upd hT) (.bl _)
      · intro H2 acc sm hD2 da
        have e := all_true da
        subst e
        refine ⟨D, _, rfl, SqL.of hD2, ?_⟩
        rw [all_rep]
        exact k _ (s1.trans sm)
    refine ⟨_, rfl, _, rfl, 1, rfl, ?_⟩
    rcases ha with ha | ha
    · refine .inl ⟨a, xs, rfl, ha, fun p hp => ?_⟩
      rw [cut1]
      exact ⟨a, p, xs, xs.drop 1, rfl, .inl ⟨Same.seq (same_upd hp) ha, SqL.of upd_same, core (Itz K a p) _ _ (walk_zip rfl) (fun H' e => ⟨Same.seq e (Same.seq (same_upd hp) ha), Same.seq e (SqL.of upd_same)⟩) (same_upd hp)⟩⟩
    · refine .inr ⟨a, xs, rfl, ha, fun hw => ?_, fun _ p hp => ?_⟩
      · have e0 : xs = [] := by
          have e : HT.sIx xs.length 0 (some 1) = min 1 xs.length := HT.sIx_nat xs.length 0 1
          rw [e] at hw
          cases xs with
          | nil => rfl
          | cons x xs =>
            have := hw.1
            rw [List.length_cons] at this
            omega
        subst e0
        exact ⟨a, a, [], [], rfl, .inr ⟨ha, ha, core (ItzT K a a) _ _ (walk_zipT rfl) (fun H' e => ⟨seqT e ha, seqT e ha⟩) (Same.refl H)⟩⟩
      · rw [cut1]
        exact ⟨a, p, xs, xs.drop 1, rfl, .inr ⟨seqT (same_upd hp) ha, SqT.of upd_same, core (ItzT K a p) _ _ (walk_zipT rfl) (fun H' e => ⟨seqT e (seqT (same_upd hp) ha), seqT e (SqT.of upd_same)⟩) (same_upd hp)⟩⟩
/-! ### is_literal -/
def spIsLiteral (K : PySem.W.Frag) : Sp := fun vs H Q _ => ∃ (v : V) (l : Lit), vs = [v] ∧ Dp K H v (dL l) ∧ l.1 ∈ pool ∧ ∀ H', Same H H' → Q (.bl true) H'
theorem scIsLiteral : FnScope ["thing"] ["thing"] (defScope sIsLiteral) := ⟨rfl, rfl, rfl, by decide +kernel, rfl, by decide +kernel, by decide +kernel⟩
theorem ok_is_literal (B : Blt mg) (G1 : FnOk P w K mg base CX0 1 f1 fd1 ["thing"] spIsWord) (D1 : Df K mg "is_word" sIsWord ["thing"] f1 fd1) (D : Df K mg "is_literal" sIsLiteral ["thing"] f fd) : FnOk P w K mg base CX0 2 f fd ["thing"] (spIsLiteral K) := by
  refine D.fn.ok scIsLiteral (fun vs H Q E h => ?_) (fun cdv A outer s H vs Q E hr h => ?_)
  · obtain ⟨v, l, rfl, _⟩ := h
    rfl
  · obtain ⟨v, l, rfl, hd, hp, k⟩ := h
    obtain ⟨a, rfl, ha⟩ := dp_lit hd
    refine ⟨_, pss_one (ps_ret (pe_and (pe_callB call_isi (by rfl) B.isi (by decide +kernel) (pa_cons (pv 0) (pa_cons (pe_bltn (by rfl) B.tup (by decide +kernel) (v := .ty "tuple") rfl) pa_nil)))
      (pe_and (pe_cmpR op_eq (pe_callB call_len_seq (by rfl) B.len PySem.boot_len (pa_cons (pv 0) pa_nil)) pe_int (nomark _))
      (pe_and (pe_call G1 hr rfl D1.mg D1.fn.kp D1.bd .nil pass0 (pa_cons (pe_ix ix_tup (pv 0) pe_int (fun _ _ => rfl)) pa_nil))
      (pe_one (pe_callB call_isi (by rfl) B.isi (by decide +kernel) (pa_cons (pe_ix ix_tup (pv 0) pe_int (fun _ _ => rfl)) (pa_cons (pe_bltn (by rfl) B.bool (by decide +kernel) (v := .ty "bool") rfl) pa_nil)))))))), ?_⟩
    refine ⟨_, rfl, _, _, .type "tuple", .type "tuple", true, rfl, .ty _, tyx_tup ha, kit_ty (by decide +kernel), true, rfl, iteT ?_⟩
    refine ⟨_, rfl, a, _, rfl, .inr ha, rfl, _, rfl, ifT (decide_eq_true rfl) ?_⟩
    refine ⟨_, rfl, a, _, 0, _, rfl, rfl, ha, atI_nat (j := 0) rfl, l.1, rfl, hp, fun H1 s1 => ⟨true, rfl, iteT ?_⟩⟩
    exact ⟨_, rfl, a, _, 1, _, rfl, rfl, seqT s1 ha, atI_nat (j := 1) rfl, _, _, .type "bool", .type "bool", true, rfl, .ty _, .base (.bl _), kit_ty (by decide +kernel), k _ s1⟩

/-! ### is_clause -/
/-- a clause as the program wants it -/
structure WfC (c : Cl) : Prop where
  ok : OkC c
  ris : (c.map (·.1)).Pairwise fun x y => dataLt (.str x) (.str y) = true
structure WfS (cs : Cs) : Prop where
  all : ∀ c ∈ cs, WfC c
  ris : cs.Pairwise fun a b => dataLt (dC a) (dC b) = true
theorem WfS.ok {cs : Cs} (h : WfS cs) : OkS cs := fun c hc => (h.all c hc).ok
theorem nodup_sub_len {α : Type} [DecidableEq α] {xs ys : List α} (h : xs.Nodup) (s : ∀ x ∈ xs, x ∈ ys) : xs.length ≤ ys.length := by
  induction xs generalizing ys with
  | nil => exact Nat.zero_le _
  | cons x xs ih =>
    have hx := s x (by simp)
    have n := List.nodup_cons.mp h
    have := ih (ys := ys.erase x) n.2 fun y hy => by
      rw [List.mem_erase_of_ne fun e => n.1 (by rw [← e]; exact hy)]
      exact s y (by simp [hy])
    rw [List.length_erase_of_mem hx] at this
    have := List.length_pos_of_mem hx
    rw [List.length_cons]
    omega
theorem WfC.len {c : Cl} (h : WfC c) : c.length ≤ 12 := by
  have := nodup_sub_len (ys := pool) (nodup_of_ris (f := PyData.str) h.ris) fun x hx => by
    obtain ⟨l, hl, rfl⟩ := List.mem_map.mp hx
    exact h.ok l hl
  rw [List.length_map] at this
  exact this
def spIsClause (K : PySem.W.Frag) : Sp := fun vs H Q _ => ∃ (v : V) (c : Cl), vs = [v] ∧ Dp K H v (dC c) ∧ WfC c ∧ ∀ H', Same H H' → Q (.bl true) H'
abbrev nIsClause : List Str := ["thing", "one", "name", "truth"]
theorem scIsClause : FnScope nIsClause ["thing"] (defScope sIsClause) := ⟨rfl, rfl, rfl, by decide +kernel, rfl, by decide +kernel, by decide +kernel⟩
theorem ok_is_clause (B : Blt mg) (G1 : FnOk P w K mg base CX0 2 f1 fd1 ["thing"] (spIsLiteral K)) (D1 : Df K mg "is_literal" sIsLiteral ["thing"] f1 fd1) (G2 : FnOk P w K mg base CX0 1 f2 fd2 ["some"] (spRises K)) (D2 : Df K mg "rises" sRises ["some"] f2 fd2)
    (D : Df K mg "is_clause" sIsClause ["thing"] f fd) : FnOk P w K mg base CX0 3 f fd ["thing"] (spIsClause K) := by
  refine D.fn.ok scIsClause (fun vs H Q E h => ?_) (fun cdv A outer s H vs Q E hr h => ?_)
  · obtain ⟨v, l, rfl, _⟩ := h
    rfl
  · obtain ⟨v, c, rfl, hd, wf, k⟩ := h
    obtain ⟨a, xs, rfl, ha, dx⟩ := dp_tup hd
    have lx : xs.length = c.length := by have := dpLen dx; simpa using this
    have l12 := wf.len
    refine ⟨_, pss_cons (ps_if (PW.pt (pw_or (pt_not (pt_val (pe_callB call_isi (by rfl) B.isi (by decide +kernel) (pa_cons (pv 0) (pa_cons (pe_bltn (by rfl) B.tup (by decide +kernel) (v := .ty "tuple") rfl) pa_nil)))))
        (pw_or1 (pt_not (pt_val (pe_callB (cr_all rfl) (by rfl) B.all (by decide +kernel) (pa_cons
          (pe_lc (own := [("one", 1)]) (g := gName 1) (tt := tYes) (te := tCall (spIsLiteral K) [] E0 (tCons (tVar 1) tNil)) rfl scIsClause.nd (pi_tup (pv 0)) (blkOk_by (N := nIsClause) (sc := defScope sIsClause) (by decide +kernel)) (fun _ _ _ _ _ => pg_name (i := 1) scIsClause.nd rfl (Or.inl rfl)) (fun _ _ _ _ _ => pts_nil)
            (fun _ _ _ _ _ => pe_call G1 hr rfl D1.mg D1.fn.kp D1.bd .nil pass0 (pa_cons (pv 1) pa_nil))) pa_nil))))))) (pss_one (ps_ret pe_bl)) pss_nil)
      (pss_one (ps_ret (pe_call G2 (hr.mono (by decide)) rfl D2.mg D2.fn.kp D2.bd .nil pass0 (pa_cons
        (pe_lc (own := [("name", 2), ("truth", 3)]) (g := gTup K 2 (gCons (gName 2) (gCons (gName 3) gNil))) (tt := tYes) (te := tVar 2) rfl scIsClause.nd (pi_tup (pv 0)) (blkOk_by (N := nIsClause) (sc := defScope sIsClause) (by decide +kernel))
          (fun _ _ _ _ _ => pg_tup rfl (pgs_cons (pg_name (i := 2) scIsClause.nd rfl (Or.inl rfl)) (pgs_cons (pg_name (i := 3) scIsClause.nd rfl (Or.inl rfl)) pgs_nil))) (fun _ _ _ _ _ => pts_nil) (fun _ _ _ _ _ => pv 2)) pa_nil)))), ?_⟩
    refine ⟨_, rfl, _, _, .type "tuple", .type "tuple", true, rfl, .ty _, tyx_tup ha, kit_ty (by decide +kernel), true, rfl, iteF ?_⟩
    refine ⟨_, rfl, a, rfl, ⟨_, ha⟩, fun D' hD => lcW (K := K) (walk_tup (xs := xs)) hD (by rw [lx]; exact Nat.le_trans l12 (by decide)) (fun H' e => seqT e ha) (fun _ => some (.bool true)) (fun i d _ e => by cases e; rfl) ?_ ?_⟩
    · rintro i x _ H2 Rt Rf hi sm ⟨rfl, hx⟩ hT _
      obtain ⟨hic, dxi⟩ := dp_at (enc := dL) ("", false) (dpAllSame sm _ _ dx) hx
      exact ⟨rfl, tyes ⟨_, rfl, _, _, rfl, dxi, wf.ok _ (mem_getD _ hic), fun H3 s3 => hT _ _ _ rfl s3 (.bl _)⟩⟩
    · intro H2 acc sm hD2 da
      have e := all_true da
      subst e
      refine ⟨D', _, rfl, SqL.of hD2, ?_⟩
      rw [all_rep]
      refine ⟨true, rfl, iteF ?_⟩
      have da2 := dpAllSame sm _ _ dx
      refine ⟨_, rfl, a, rfl, ⟨_, seqT sm ha⟩, fun D3 hD3 => lcW (K := K) (walk_tup (xs := xs)) hD3 (by rw [lx]; exact Nat.le_trans l12 (by decide)) (fun H' e => seqT e (seqT sm ha)) (fun i => some (.str (c.getD i ("", false)).1)) (fun i d _ e => by cases e; rfl) ?_ ?_⟩
      · rintro i x _ H3 Rt Rf hi sm3 ⟨rfl, hx⟩ hT _
        obtain ⟨hic, dxi⟩ := dp_at (enc := dL) ("", false) (dpAllSame sm3 _ _ da2) hx
        obtain ⟨b, rfl, hb⟩ := dp_lit dxi
        exact ⟨b, _, rfl, hb, rfl, _, _, rfl, _, _, rfl, rfl, rfl, tyes ⟨_, rfl, hT _ _ _ rfl (Same.refl _) (.str _)⟩⟩
      · intro H3 acc3 sm3 hD3' da3
        have e3 : (List.range xs.length).filterMap (fun i => some (PyData.str (c.getD i ("", false)).1)) = (c.map (·.1)).map .str := by
          rw [lx, fmap_range c (fun l => some (PyData.str l.1)) ("", false), List.map_map]
          clear wf dx hd da da2 da3 l12 lx
          induction c with
          | nil => rfl
          | cons l c ih => rw [List.filterMap_cons, List.map_cons, ih]; rfl
        rw [e3] at da3
        have la := dpLen da3
        refine ⟨D3, acc3, _, rfl, .inl (SqL.of hD3'), da3, ?_, ?_, ?_, ?_, fun H4 s4 => k _ ((sm.trans sm3).trans s4)⟩
        · intro d hd e he
          obtain ⟨x, _, rfl⟩ := List.mem_map.mp hd
          obtain ⟨y, _, rfl⟩ := List.mem_map.mp he
          rfl
        · intro d hd
          obtain ⟨x, _, rfl⟩ := List.mem_map.mp hd
          exact ⟨by simp, Nat.zero_le _⟩
        · exact List.pairwise_map.mpr wf.ris
        · rw [la, List.length_map, List.length_map]; omega
/-! ### are_clauses -/
def spAreClauses (K : PySem.W.Frag) : Sp := fun vs H Q _ => ∃ (v : V) (cs : Cs), vs = [v] ∧ Dp K H v (dS cs) ∧ WfS cs ∧ cs.length ≤ 12 ∧ ∀ H', Same H H' → Q (.bl true) H'
abbrev nAreClauses : List Str := ["thing", "one"]
theorem scAreClauses : FnScope nAreClauses ["thing"] (defScope sAreClauses) := ⟨rfl, rfl, rfl, by decide +kernel, rfl, by decide +kernel, by decide +kernel⟩
theorem ok_are_clauses (B : Blt mg) (G1 : FnOk P w K mg base CX0 3 f1 fd1 ["thing"] (spIsClause K)) (D1 : Df K mg "is_clause" sIsClause ["thing"] f1 fd1) (G2 : FnOk P w K mg base CX0 1 f2 fd2 ["some"] (spRises K)) (D2 : Df K mg "rises" sRises ["some"] f2 fd2)
    (D : Df K mg "are_clauses" sAreClauses ["thing"] f fd) : FnOk P w K mg base CX0 4 f fd ["thing"] (spAreClauses K) := by
  refine D.fn.ok scAreClauses (fun vs H Q E h => ?_) (fun cdv A outer s H vs Q E hr h => ?_)
  · obtain ⟨v, l, rfl, _⟩ := h
    rfl
  · obtain ⟨v, cs, rfl, hd, wf, few, k⟩ := h
    obtain ⟨a, xs, rfl, ha, dx⟩ := dp_tup hd
    have lx : xs.length = cs.length := by have := dpLen dx; simpa using this
    refine ⟨_, pss_one (ps_ret (pe_and (pe_callB call_isi (by rfl) B.isi (by decide +kernel) (pa_cons (pv 0) (pa_cons (pe_bltn (by rfl) B.tup (by decide +kernel) (v := .ty "tuple") rfl) pa_nil)))
      (pe_and (pe_callB (cr_all rfl) (by rfl) B.all (by decide +kernel) (pa_cons
          (pe_lc (own := [("one", 1)]) (g := gName 1) (tt := tYes) (te := tCall (spIsClause K) [] E0 (tCons (tVar 1) tNil)) rfl scAreClauses.nd (pi_tup (pv 0)) (blkOk_by (N := nAreClauses) (sc := defScope sAreClauses) (by decide +kernel)) (fun _ _ _ _ _ => pg_name (i := 1) scAreClauses.nd rfl (Or.inl rfl)) (fun _ _ _ _ _ => pts_nil)
            (fun _ _ _ _ _ => pe_call G1 hr rfl D1.mg D1.fn.kp D1.bd .nil pass0 (pa_cons (pv 1) pa_nil))) pa_nil))
      (pe_one (pe_call G2 (hr.mono (by decide)) rfl D2.mg D2.fn.kp D2.bd .nil pass0 (pa_cons (pv 0) pa_nil)))))), ?_⟩
    refine ⟨_, rfl, _, _, .type "tuple", .type "tuple", true, rfl, .ty _, tyx_tup ha, kit_ty (by decide +kernel), true, rfl, iteT ?_⟩
    refine ⟨_, rfl, a, rfl, ⟨_, ha⟩, fun D' hD => lcW (K := K) (walk_tup (xs := xs)) hD (by rw [lx]; exact Nat.le_trans few (by decide)) (fun H' e => seqT e ha) (fun _ => some (.bool true)) (fun i d _ e => by cases e; rfl) ?_ ?_⟩
    · rintro i x _ H2 Rt Rf hi sm ⟨rfl, hx⟩ hT _
      obtain ⟨hic, dxi⟩ := dp_at (enc := dC) [] (dpAllSame sm _ _ dx) hx
      exact ⟨rfl, tyes ⟨_, rfl, _, _, rfl, dxi, wf.all _ (mem_getD _ hic), fun H3 s3 => hT _ _ _ rfl s3 (.bl _)⟩⟩
    · intro H2 acc sm hD2 da
      have e := all_true da
      subst e
      refine ⟨D', _, rfl, SqL.of hD2, ?_⟩
      rw [all_rep]
      refine ⟨true, rfl, iteT ⟨_, rfl, a, xs, _, rfl, .inr (seqT sm ha), dpAllSame sm _ _ dx, ?_, ?_, ?_, by omega, fun H3 s3 => k _ (sm.trans s3)⟩⟩
      · intro d hd e he
        obtain ⟨x, _, rfl⟩ := List.mem_map.mp hd
        obtain ⟨y, _, rfl⟩ := List.mem_map.mp he
        exact al_dC x y
      · intro d hd
        obtain ⟨x, _, rfl⟩ := List.mem_map.mp hd
        exact ⟨by simp [dC], Nat.le_trans (dp_dC x) (by decide)⟩
      · exact List.pairwise_map.mpr wf.ris
end
end Wc
set_option maxRecDepth 100000
set_option maxHeartbeats 4000000
/-! W23: comprehensions by values; least_name. -/
namespace Wc
open PySem PySem.Spec PyProof.Rows L2
open PySem.W (dataLt alike)

section
variable {X : Cx}
def rInL (K : PySem.W.Frag) (neg : Bool) : R2 := fun x y H Q => ∃ d ds, Dp K H x d ∧ Dp K H y (.list ds) ∧ SeqAt.shaped d = true ∧ SeqAt.shaped (.list ds) = true ∧ Q (.bl (xor neg (ds.any fun z => PyData.eqv z d))) H
theorem op_inL (hu : X.A.units + 65 < cLine) : OpR X (compareOp .In) (rInL X.K false) := by
  intro pins s σ H x y v u Q I rx ry h
  obtain ⟨d, ds, hd, he, sd, se, q⟩ := h
  obtain ⟨as, r1⟩ := Dp.reads I d x v hd rx
  obtain ⟨bs, r2⟩ := Dp.reads I (.list ds) y u he ry
  refine SeqAt.in_list_reads r2 r1 (SeqAt.canLay_of_shaped se) (SeqAt.canLay_of_shaped sd) (room_in_shaped sd hu) ⟨.bl _, H, I, rfl, ?_⟩
  simpa using q
theorem op_notInL (hu : X.A.units + 65 < cLine) : OpR X (compareOp .NotIn) (rInL X.K true) := by
  intro pins s σ H x y v u Q I rx ry h
  obtain ⟨d, ds, hd, he, sd, se, q⟩ := h
  obtain ⟨as, r1⟩ := Dp.reads I d x v hd rx
  obtain ⟨bs, r2⟩ := Dp.reads I (.list ds) y u he ry
  refine SeqAt.notIn_list_reads r2 r1 (SeqAt.canLay_of_shaped se) (SeqAt.canLay_of_shaped sd) (room_in_shaped sd hu) ⟨.bl _, H, I, rfl, ?_⟩
  simpa using q
end
section
variable {K : PySem.W.Frag} {J J1 : It} {n n1 : Nat} {G G1 : Hp → Prop} {Y Y1 : Nat → Hp → V → Hp → Prop} {g g1 : TG} {tt tt1 : TT} {te : TE} {vs vs1 : List Nat} {σ : L2.St} {H1 : Hp} {D : Addr} {Q : Hp → Prop}
theorem fmap_len {α : Type} (f : Nat → Option α) (n : Nat) : ((List.range n).filterMap f).length ≤ n := by
  have := List.length_filterMap_le f (List.range n)
  rw [List.length_range] at this
  exact this
/-- a comprehension over any walk: f: the value that turn i gives -/
theorem lcV (w : Walk J n G Y) (hD : H1 D = none) (hsz : n ≤ sizeLine) (hG : ∀ H, Same H1 H → G H) (f : Nat → Option V)
    (hs : ∀ i x H H' (Rt : VK) (Rf : Hp → Prop), i < n → Same H1 H → Y i H x H' → (∀ y H4, f i = some y → Same H H4 → Rt y H4) → (∀ H4, f i = none → Same H H4 → Rf H4) →
      g x (wipe σ vs) H' fun σ2 H2 => wipe σ2 vs = wipe σ vs ∧ tt σ2 H2 fun b H3 => if b = true then te σ2 H3 Rt else Rf H3)
    (hd : ∀ H, Same H1 H → H D = some (.lst ((List.range n).filterMap f)) → Q H) :
    ∃ W : Nat → Nat → Hp → Prop, (∃ m, W 0 m (upd H1 D (.lst []))) ∧ ∀ i m H, W i m H →
      (J.stop i H ∧ Q H) ∨ (J.go i H ∧ ∃ Nx : Hp → Prop, (∀ H', Nx H' → ∃ m', m' < m ∧ W (i + 1) m' H') ∧ ∀ x H', J.yld i H x H' → g x (wipe σ vs) H' fun σ2 H2 => wipe σ2 vs = wipe σ vs ∧ tt σ2 H2 fun b H3 =>
        if b = true then te σ2 H3 fun y H4 => ∃ acc, H4 D = some (.lst acc) ∧ acc.length < sizeLine ∧ Nx (upd H4 D (.lst (acc ++ [y]))) else Nx H3) := by
  refine lc_it w (fun i H => Same H1 H ∧ H D = some (.lst ((List.range i).filterMap f))) ⟨same_upd hD, upd_same⟩ (fun i H _ h => hG H h.1) ?_ (fun H h => hd H h.1 h.2)
  rintro i x H H' hi ⟨sm, ha⟩ hy
  have hl := fmap_len f i
  refine hs i x H H' _ _ hi sm hy (fun y H4 e s4 => ⟨_, s4 _ _ ha, by omega, same_of (sm.trans s4) hD, ?_⟩) fun H4 e s4 => ⟨sm.trans s4, ?_⟩
  · rw [upd_same, filterMap_range_succ, e]
    rfl
  · rw [s4 _ _ ha, filterMap_range_succ, e]
    simp
/-- the inner walk, by values, all of them kept -/
theorem lcVIn {H4 : Hp} (w1 : Walk J1 n1 G1 Y1) (hD : H1 D = none) (s4 : Same H1 H4) {acc0 : List V} (ha : H4 D = some (.lst acc0)) (hsz : acc0.length + n1 ≤ sizeLine) (hG : ∀ H, Same H1 H → G1 H) (xs : List V) (hxl : xs.length = n1) {σ2 : L2.St} {Nx : Hp → Prop}
    (hs : ∀ i x H H' (Rt : VK) (Rf : Hp → Prop), i < n1 → Same H1 H → Y1 i H x H' → (∀ y H4, xs[i]? = some y → Same H H4 → Rt y H4) →
      g1 x (wipe σ2 vs1) H' fun σ3 H5 => wipe σ3 vs1 = wipe σ2 vs1 ∧ tt1 σ3 H5 fun b H6 => if b = true then te σ3 H6 Rt else Rf H6)
    (hd : ∀ H, Same H1 H → H D = some (.lst (acc0 ++ xs)) → Nx H) :
    ∃ W1 : Nat → Nat → Hp → Prop, (∃ m, W1 0 m H4) ∧ ∀ j k H, W1 j k H →
      (J1.stop j H ∧ Nx H) ∨ (J1.go j H ∧ ∃ Nx1 : Hp → Prop, (∀ H', Nx1 H' → ∃ k', k' < k ∧ W1 (j + 1) k' H') ∧ ∀ x H', J1.yld j H x H' → g1 x (wipe σ2 vs1) H' fun σ3 H5 => wipe σ3 vs1 = wipe σ2 vs1 ∧ tt1 σ3 H5 fun b H6 =>
        if b = true then te σ3 H6 fun y H7 => ∃ acc, H7 D = some (.lst acc) ∧ acc.length < sizeLine ∧ Nx1 (upd H7 D (.lst (acc ++ [y]))) else Nx1 H6) := by
  refine ⟨fun j k H => k = n1 - j ∧ j ≤ n1 ∧ Same H1 H ∧ H D = some (.lst (acc0 ++ xs.take j)), ⟨n1, by simp, Nat.zero_le _, s4, by simpa using ha⟩, ?_⟩
  rintro j k H ⟨rfl, hj, sm, hacc⟩
  by_cases hlt : j < n1
  · refine .inr ⟨w1.goes j H hlt (hG H sm), _, fun H' p' => ⟨n1 - (j + 1), by omega, rfl, hlt, p'⟩, fun x H' hy => ?_⟩
    refine hs j x H H' _ _ hlt sm (w1.yields j H x H' hlt (hG H sm) hy) fun y H7 e s7 => ⟨_, s7 _ _ hacc, ?_, same_of (sm.trans s7) hD, ?_⟩
    · rw [List.length_append, List.length_take]; omega
    · rw [upd_same, List.take_add_one, e, List.append_assoc]
      rfl
  · have e : j = n1 := by omega
    subst e
    rw [List.take_of_length_le (by omega)] at hacc
    exact .inl ⟨w1.stops H (hG H sm), hd H sm hacc⟩
/-- two walks, by values: F i: what turn i gives -/
theorem lcVOut {wi1 : TI} (w : Walk J n G Y) (hD : H1 D = none) (B : Nat) (hsz : n * B ≤ sizeLine) (hG : ∀ H, Same H1 H → G H) (F : Nat → List V) (hF : ∀ i, i < n → (F i).length ≤ B)
    (hs : ∀ i x H H' acc (Nx : Hp → Prop), i < n → Same H1 H → H D = some (.lst acc) → acc.length + B ≤ sizeLine → Y i H x H' → (∀ H4, Same H1 H4 → H4 D = some (.lst (acc ++ F i)) → Nx H4) →
      g x (wipe σ vs) H' fun σ2 H2 => wipe σ2 vs = wipe σ vs ∧ tt σ2 H2 fun b H3 => if b = true then wi1 σ2 H3 fun J1 H4 => ∃ W1 : Nat → Nat → Hp → Prop, (∃ m, W1 0 m H4) ∧ ∀ j k H, W1 j k H →
        (J1.stop j H ∧ Nx H) ∨ (J1.go j H ∧ ∃ Nx1 : Hp → Prop, (∀ H', Nx1 H' → ∃ k', k' < k ∧ W1 (j + 1) k' H') ∧ ∀ x H', J1.yld j H x H' → g1 x (wipe σ2 vs1) H' fun σ3 H5 => wipe σ3 vs1 = wipe σ2 vs1 ∧ tt1 σ3 H5 fun b H6 =>
          if b = true then te σ3 H6 fun y H7 => ∃ acc, H7 D = some (.lst acc) ∧ acc.length < sizeLine ∧ Nx1 (upd H7 D (.lst (acc ++ [y]))) else Nx1 H6) else Nx H3)
    (hd : ∀ H, Same H1 H → H D = some (.lst ((List.range n).flatMap F)) → Q H) :
    ∃ W : Nat → Nat → Hp → Prop, (∃ m, W 0 m (upd H1 D (.lst []))) ∧ ∀ i m H, W i m H →
      (J.stop i H ∧ Q H) ∨ (J.go i H ∧ ∃ Nx : Hp → Prop, (∀ H', Nx H' → ∃ m', m' < m ∧ W (i + 1) m' H') ∧ ∀ x H', J.yld i H x H' → g x (wipe σ vs) H' fun σ2 H2 => wipe σ2 vs = wipe σ vs ∧ tt σ2 H2 fun b H3 =>
        if b = true then wi1 σ2 H3 fun J1 H4 => ∃ W1 : Nat → Nat → Hp → Prop, (∃ m, W1 0 m H4) ∧ ∀ j k H, W1 j k H →
          (J1.stop j H ∧ Nx H) ∨ (J1.go j H ∧ ∃ Nx1 : Hp → Prop, (∀ H', Nx1 H' → ∃ k', k' < k ∧ W1 (j + 1) k' H') ∧ ∀ x H', J1.yld j H x H' → g1 x (wipe σ2 vs1) H' fun σ3 H5 => wipe σ3 vs1 = wipe σ2 vs1 ∧ tt1 σ3 H5 fun b H6 =>
            if b = true then te σ3 H6 fun y H7 => ∃ acc, H7 D = some (.lst acc) ∧ acc.length < sizeLine ∧ Nx1 (upd H7 D (.lst (acc ++ [y]))) else Nx1 H6)
        else Nx H3) := by
  have hlen : ∀ i, i ≤ n → ((List.range i).flatMap F).length ≤ i * B := fun i hi => by
    induction i with
    | zero => simp
    | succ i ih =>
      rw [List.range_succ, List.flatMap_append, List.length_append, Nat.succ_mul]
      have h1 := ih (by omega)
      have h2 := hF i (by omega)
      simp only [List.flatMap_cons, List.flatMap_nil, List.append_nil]
      omega
  refine ⟨fun i m H => m = n - i ∧ i ≤ n ∧ Same H1 H ∧ H D = some (.lst ((List.range i).flatMap F)), ⟨n, by simp, Nat.zero_le _, same_upd hD, upd_same⟩, ?_⟩
  rintro i m H ⟨rfl, hi, sm, hacc⟩
  by_cases hlt : i < n
  · have hB : (i + 1) * B ≤ n * B := Nat.mul_le_mul_right B hlt
    rw [Nat.succ_mul] at hB
    have hl := hlen i hi
    refine .inr ⟨w.goes i H hlt (hG H sm), _, fun H' p' => ⟨n - (i + 1), by omega, rfl, hlt, p'⟩, fun x H' hy => ?_⟩
    refine hs i x H H' _ _ hlt sm hacc (by omega) (w.yields i H x H' hlt (hG H sm) hy) fun H4 s4 h4 => ⟨s4, ?_⟩
    rw [h4, List.range_succ, List.flatMap_append]
    simp
  · have e : i = n := by omega
    subst e
    exact .inl ⟨w.stops H (hG H sm), hd H sm hacc⟩
theorem dp_strs {H : Hp} : ∀ {acc : List V} {ns : List Str}, DpAll K H acc (ns.map .str) → acc = ns.map V.str
  | _, [], h => by cases h; rfl
  | _, n :: ns, h => by
    cases h with
    | cons h1 h2 =>
      cases dp_str h1
      rw [dp_strs h2]
      rfl
theorem strs_dp {H : Hp} (ns : List Str) : DpAll K H (ns.map V.str) (ns.map .str) := dpAll_map _ _ _ fun x _ => .str x
end
section
variable {P : Program} {w : World} {K : PySem.W.Frag} {mg : Str → Option Value} {base : Heap} {f f1 f2 f3 : Addr} {fd fd1 fd2 fd3 : FuncData}
/-! ### least_name -/
def leastN (ns : List Str) : Str := (srtE PyData.str ns).headD ""
theorem leastN_of {ns : List Str} {x : Str} (hx : x ∈ ns) (h : ∀ y ∈ ns, dataLt (.str y) (.str x) = false) : leastN ns = x := by
  unfold leastN
  have hm : x ∈ srtE PyData.str ns := srtE_mem.mpr hx
  have hp := srtE_pair (f := PyData.str) ns
  cases e : srtE PyData.str ns with
  | nil => rw [e] at hm; cases hm
  | cons y ys =>
    rw [e] at hm hp
    have hy : y ∈ ns := srtE_mem.mp (by rw [e]; exact List.mem_cons_self)
    rcases List.mem_cons.mp hm with h1 | h1
    · exact h1.symm
    · exact ordN.eq (h y hy) ((List.pairwise_cons.mp hp).1 x h1)
def spLeastName (K : PySem.W.Frag) : Sp := fun vs H Q _ => ∃ (g nl : Addr) (r : V) (ns : List Str), vs = [.ref g] ∧ SqT K H g [.ref nl, r] ∧ SqL K H nl (ns.map V.str) ∧ ∀ H', Same H H' → Q (.str (leastN ns)) H'
theorem scLeastName : FnScope ["group"] ["group"] (defScope sLeastName) := ⟨rfl, rfl, rfl, by decide +kernel, rfl, by decide +kernel, by decide +kernel⟩
theorem keysOk_str (ns : List Str) (n : Nat) : KeysOk n (fun i => .str (ns.getD i "")) := fun i j _ _ => ⟨rfl, by simp, Nat.zero_le _⟩
theorem ok_least_name (B : Blt mg) (D : Df K mg "least_name" sLeastName ["group"] f fd) : FnOk P w K mg base CX0 1 f fd ["group"] (spLeastName K) := by
  refine D.fn.ok scLeastName (fun vs H Q E h => ?_) (fun cdv A outer s H vs Q E hr h => ?_)
  · obtain ⟨g, nl, r, ns, rfl, _⟩ := h
    rfl
  · obtain ⟨g, nl, r, ns, rfl, hg, hn, k⟩ := h
    refine ⟨_, pss_one (ps_ret (pe_callBK (cr_minDef rfl (hu0 hr (by decide))) (by rfl) B.min (by decide +kernel) (pa_cons (pe_ix ix_tup (pv 0) pe_int (fun _ _ => rfl)) pa_nil) (pk_cons pe_str pk_nil))), ?_⟩
    refine ⟨_, rfl, g, _, 0, _, rfl, rfl, hg, atI_nat (j := 0) rfl, nl, .str "", ns.map V.str, fun i => .str (ns.getD i ""), rfl, rfl, .inl hn, keysOk_str ns _, fun i x hx => ?_, fun e => ?_, fun i x hx hm H' s1 => ?_⟩
    · exact (dp_at (enc := PyData.str) "" (strs_dp (K := K) (H := H) ns) hx).2
    · have e' : ns = [] := by simpa using e
      subst e'
      have h0 : leastN [] = "" := by
        unfold leastN srtE
        rw [List.mergeSort_nil]
        rfl
      have := k _ (Same.refl H)
      rw [h0] at this
      exact this
    · obtain ⟨hi, d⟩ := dp_at (enc := PyData.str) "" (strs_dp (K := K) (H := H) ns) hx
      cases dp_str d
      have e : leastN ns = ns.getD i "" := leastN_of (mem_getD (α := Str) "" hi) (fun y hy => ?_)
      · rw [← e]
        exact k _ s1
      · obtain ⟨j, hj⟩ := List.mem_iff_getElem?.mp hy
        have := hm j (by rw [List.length_map]; exact (List.getElem?_eq_some_iff.mp hj).1)
        have ej : ns.getD j ("" : Str) = y := by rw [List.getD_eq_getElem?_getD, hj]; rfl
        rw [← ej]
        exact this
end
end Wc
set_option maxRecDepth 100000
set_option maxHeartbeats 8000000
/-! W24: groups. -/
namespace Wc
open PySem PySem.Spec PyProof.Rows L2
open PySem.W (dataLt alike)

def forBody : Stmt → List Stmt
  | .For _ _ b _ _ => b
  | _ => []
def forAt (s : Stmt) (i : Nat) : Stmt := (forBody s).getD i (.Pass ⟨0, 0, 0, 0⟩)
def ifOf : Expr → Expr
  | .ListComp _ (g :: _) _ _ => g.ifs.headD (.Constant .none 0 ⟨0, 0, 0, 0⟩)
  | .SetComp _ (g :: _) _ _ => g.ifs.headD (.Constant .none 0 ⟨0, 0, 0, 0⟩)
  | e => e
/-! ### groups as data -/
abbrev Gp := List Str × List Cl
def dG (g : Gp) : PyData := .tuple [.list (g.1.map .str), .list (g.2.map dC)]
theorem al_dG (a b : Gp) : alike (dG a) (dG b) = true := by
  have h1 : alike (.list (a.1.map .str)) (.list (b.1.map .str)) = true := al_dN a.1 b.1
  have h2 : alike (.list (a.2.map dC)) (.list (b.2.map dC)) = true := al_dS a.2 b.2
  show PySem.W.alikeAll _ _ = true
  simp only [PySem.W.alikeAll, h1, h2, Bool.and_self]
theorem dG_inj {a b : Gp} (h : dG a = dG b) : a = b := by
  obtain ⟨a1, a2⟩ := a
  obtain ⟨b1, b2⟩ := b
  simp only [dG, PyData.tuple.injEq, List.cons.injEq, PyData.list.injEq, and_true] at h
  have e1 : a1 = b1 := map_inj str_inj h.1
  have e2 : a2 = b2 := map_inj dC_inj h.2
  rw [e1, e2]
theorem eqv_dG (a b : Gp) : PyData.eqv (dG a) (dG b) = decide (a = b) := by
  rw [Bool.eq_iff_iff, eqv_iff (al_dG a b) (al_dG a a), decide_eq_true_iff]
  exact ⟨dG_inj, congrArg _⟩
def OkG (g : Gp) : Prop := OkNs g.1 ∧ OkS g.2
theorem dp_dG (g : Gp) : (dG g).depth ≤ 4 := by
  have h1 : (PyData.list (g.1.map .str)).depth ≤ 1 := dp_dN g.1
  have h2 : (PyData.list (g.2.map dC)).depth ≤ 3 := dp_dS g.2
  show PyData.depthAll _ + 1 ≤ 4
  simp only [PyData.depthAll]
  omega
theorem lay_dG {g : Gp} (h : OkG g) : (dG g).canLay0 = true := by
  have h1 : (PyData.list (g.1.map .str)).canLay0 = true := lay_dN h.1
  have h2 : (PyData.list (g.2.map dC)).canLay0 = true := lay_dS h.2
  show PyData.canLayAll0 _ = true
  simp only [PyData.canLayAll0, h1, h2, Bool.and_self]
theorem sh_dG {g : Gp} (h : OkG g) : SeqAt.shaped (dG g) = true := sh_of (lay_dG h) (dp_dG g) (by decide)
theorem sh_dGs {gs : List Gp} (h : ∀ g ∈ gs, OkG g) : SeqAt.shaped (.list (gs.map dG)) = true := by
  refine sh_of (n := 5) (canLayAll_all fun d hd => ?_) (Nat.succ_le_succ (depthAll_le fun d hd => ?_)) (by decide)
  · obtain ⟨g, hg, rfl⟩ := List.mem_map.mp hd
    exact lay_dG (h g hg)
  · obtain ⟨g, hg, rfl⟩ := List.mem_map.mp hd
    exact dp_dG g
/-- a group as it stands -/
def GAt (K : PySem.W.Frag) (H : Hp) (v : V) (g : Gp) : Prop := ∃ (a nl rl : Addr) (rvs : List V), v = .ref a ∧ H a = some (.tup [.ref nl, .ref rl]) ∧ H nl = some (.lst (g.1.map V.str)) ∧ H rl = some (.lst rvs) ∧ DpAll K H rvs (g.2.map dC)
section
variable {K : PySem.W.Frag} {H H' : Hp}
theorem GAt.same {v : V} {g : Gp} (e : Same H H') (h : GAt K H v g) : GAt K H' v g := by
  obtain ⟨a, nl, rl, rvs, rfl, h1, h2, h3, h4⟩ := h
  exact ⟨a, nl, rl, rvs, rfl, e _ _ h1, e _ _ h2, e _ _ h3, dpAllSame e _ _ h4⟩
theorem GAt.dp {v : V} {g : Gp} (h : GAt K H v g) : Dp K H v (dG g) := by
  obtain ⟨a, nl, rl, rvs, rfl, h1, h2, h3, h4⟩ := h
  exact .tup (SqT.of h1) (.cons (.lst (SqL.of h2) (strs_dp g.1)) (.cons (.lst (SqL.of h3) h4) .nil))
abbrev GAll (K : PySem.W.Frag) (H : Hp) : List V → List Gp → Prop := Paired (GAt K H)
theorem GAll.same {vs : List V} {gs : List Gp} (e : Same H H') (h : GAll K H vs gs) : GAll K H' vs gs := Paired.mapP h fun _ _ q => q.same e
theorem GAll.dp : ∀ {vs : List V} {gs : List Gp}, GAll K H vs gs → DpAll K H vs (gs.map dG)
  | _, _, .nil => .nil
  | _, _, .cons h t => .cons h.dp (GAll.dp t)
theorem GAll.at {vs : List V} {gs : List Gp} (h : GAll K H vs gs) {i : Nat} {v : V} (e : vs[i]? = some v) : i < gs.length ∧ GAt K H v (gs.getD i ([], [])) := by
  induction h generalizing i with
  | nil => simp at e
  | @cons x y xs ys h1 t ih =>
    cases i with
    | zero =>
      have e' : x = v := by simpa using e
      subst e'
      exact ⟨Nat.succ_pos _, h1⟩
    | succ i =>
      obtain ⟨a, b⟩ := ih (i := i) (by simpa using e)
      exact ⟨Nat.succ_lt_succ a, b⟩
/-- some of them -/
theorem GAll.sel (p : Gp → Bool) : ∀ {vs : List V} {gs : List Gp}, GAll K H vs gs → GAll K H ((List.range gs.length).filterMap fun i => if p (gs.getD i ([], [])) = true then vs[i]? else none) (gs.filter p)
  | _, _, .nil => .nil
  | v :: vs, g :: gs, .cons h t => by
    have ih := GAll.sel p t
    rw [List.length_cons, List.range_succ_eq_map, List.filterMap_cons, List.filterMap_map, List.filter_cons]
    have e : ((fun i => if p ((g :: gs).getD i ([], [])) = true then (v :: vs)[i]? else none) ∘ Nat.succ) = fun i => if p (gs.getD i ([], [])) = true then vs[i]? else none := rfl
    rw [e]
    by_cases c : p g = true
    · simp only [List.getD_cons_zero, c, if_true, List.getElem?_cons_zero]
      exact .cons h ih
    · simp only [List.getD_cons_zero, c]
      exact ih
theorem GAll.app {vs us : List V} {gs hs : List Gp} (h : GAll K H vs gs) (h' : GAll K H us hs) : GAll K H (vs ++ us) (gs ++ hs) := by
  induction h with
  | nil => exact h'
  | cons h1 _ ih => exact .cons h1 ih
end
/-! ### what is computed -/
def nearB (names : List Str) (g : Gp) : Bool := names.any fun n => decide (n ∈ g.1)
def nearG (found : List Gp) (names : List Str) : List Gp := found.filter (nearB names)
def farG (found : List Gp) (names : List Str) : List Gp := found.filter fun g => !decide (g ∈ nearG found names)
def stepG (found : List Gp) (c : Cl) : List Gp :=
  farG found (c.map (·.1)) ++ [((nearG found (c.map (·.1))).foldl (fun ns g => ns ++ g.1) (c.map (·.1)), (nearG found (c.map (·.1))).flatMap (·.2) ++ [c])]
def sortG (gs : List Gp) : List Gp := gs.mergeSort fun g h => !dataLt (.str (leastN h.1)) (.str (leastN g.1))
def groupsC (cs : Cs) : List Cs := (sortG (cs.foldl stepG [])).map fun g => srtE dC g.2
/-- bounds: so many clauses, so many names -/
structure GB (i : Nat) (gs : List Gp) : Prop where
  len : gs.length ≤ i
  rows : ((gs.map fun g => g.2.length).sum) ≤ i
  names : ((gs.map fun g => g.1.length).sum) ≤ 12 * i
  ok : ∀ g ∈ gs, OkG g
theorem sum_filter {α : Type} (w : α → Nat) (p : α → Bool) : ∀ xs : List α, ((xs.filter p).map w).sum ≤ (xs.map w).sum
  | [] => Nat.le_refl _
  | x :: xs => by
    have := sum_filter w p xs
    rw [List.filter_cons]
    split
    · simp only [List.map_cons, List.sum_cons]; omega
    · simp only [List.map_cons, List.sum_cons]; omega
theorem sum_part {α : Type} (w : α → Nat) (p q : α → Bool) (h : ∀ x, p x = true → q x = false) : ∀ xs : List α, ((xs.filter p).map w).sum + ((xs.filter q).map w).sum ≤ (xs.map w).sum
  | [] => Nat.le_refl _
  | x :: xs => by
    have ih := sum_part w p q h xs
    rw [List.filter_cons, List.filter_cons]
    cases hp : p x with
    | true =>
      simp only [h x hp, if_true, Bool.false_eq_true, if_false, List.map_cons, List.sum_cons]
      omega
    | false =>
      cases hq : q x with
      | true => simp only [if_true, Bool.false_eq_true, if_false, List.map_cons, List.sum_cons]; omega
      | false => simp only [Bool.false_eq_true, if_false, List.map_cons, List.sum_cons]; omega
theorem foldl_app_len (gs : List Gp) (ns : List Str) : (gs.foldl (fun ns g => ns ++ g.1) ns).length = ns.length + (gs.map fun g => g.1.length).sum := by
  induction gs generalizing ns with
  | nil => simp
  | cons g gs ih =>
    rw [List.foldl_cons, ih, List.length_append, List.map_cons, List.sum_cons]
    omega
theorem mem_foldl_app {gs : List Gp} {ns : List Str} {x : Str} : x ∈ gs.foldl (fun ns g => ns ++ g.1) ns ↔ x ∈ ns ∨ ∃ g ∈ gs, x ∈ g.1 := by
  induction gs generalizing ns with
  | nil => simp
  | cons g gs ih =>
    rw [List.foldl_cons, ih, List.mem_append]
    simp only [List.mem_cons, exists_eq_or_imp]
    exact or_assoc
theorem far_not {found : List Gp} {ns : List Str} {g : Gp} : g ∈ farG found ns ↔ g ∈ found ∧ nearB ns g = false := by
  unfold farG nearG
  rw [List.mem_filter]
  constructor
  · rintro ⟨h1, h2⟩
    refine ⟨h1, ?_⟩
    cases e : nearB ns g with
    | false => rfl
    | true =>
      have : g ∈ found.filter (nearB ns) := List.mem_filter.mpr ⟨h1, e⟩
      simp [this] at h2
  · rintro ⟨h1, h2⟩
    refine ⟨h1, ?_⟩
    have : ¬ g ∈ found.filter (nearB ns) := fun z => by rw [(List.mem_filter.mp z).2] at h2; cases h2
    simp [this]
theorem far_eq (found : List Gp) (ns : List Str) : farG found ns = found.filter fun g => !nearB ns g := by
  unfold farG
  refine List.filter_congr fun g hg => ?_
  cases e : nearB ns g with
  | true =>
    have : g ∈ nearG found ns := List.mem_filter.mpr ⟨hg, e⟩
    simp [this]
  | false =>
    have : ¬ g ∈ nearG found ns := fun z => by rw [(List.mem_filter.mp z).2] at e; cases e
    simp [this]
theorem step_bound {i : Nat} {gs : List Gp} {c : Cl} (h : GB i gs) (hc : c.length ≤ 12) (okc : OkC c) : GB (i + 1) (stepG gs c) := by
  have key : ∀ w : Gp → Nat, ((farG gs (c.map (·.1))).map w).sum + ((nearG gs (c.map (·.1))).map w).sum ≤ (gs.map w).sum := fun w => by
    rw [far_eq]
    exact sum_part w _ _ (fun g e => by simpa using e) gs
  have okf : ∀ g ∈ farG gs (c.map (·.1)), OkG g := fun g hg => h.ok g (far_not.mp hg).1
  have okn : ∀ g ∈ nearG gs (c.map (·.1)), OkG g := fun g hg => h.ok g (List.mem_filter.mp hg).1
  refine ⟨?_, ?_, ?_, fun g hg => ?_⟩
  · unfold stepG
    rw [List.length_append, List.length_singleton]
    have : (farG gs (c.map (·.1))).length ≤ gs.length := List.length_filter_le _ _
    have := h.len
    omega
  · unfold stepG
    rw [List.map_append, List.sum_append]
    have k := key fun g => g.2.length
    have := h.rows
    simp only [List.map_cons, List.map_nil, List.sum_cons, List.sum_nil, List.length_append, List.length_flatMap, List.length_cons, List.length_nil]
    omega
  · unfold stepG
    rw [List.map_append, List.sum_append]
    have k := key fun g => g.1.length
    have := h.names
    simp only [List.map_cons, List.map_nil, List.sum_cons, List.sum_nil, foldl_app_len, List.length_map]
    omega
  · unfold stepG at hg
    rcases List.mem_append.mp hg with hg | hg
    · exact okf g hg
    · obtain rfl := List.mem_singleton.mp hg
      refine ⟨fun x hx => ?_, fun d hd => ?_⟩
      · rcases mem_foldl_app.mp hx with hx | ⟨g, hg, hx⟩
        · obtain ⟨l, hl, rfl⟩ := List.mem_map.mp hx
          exact okc l hl
        · exact (okn g hg).1 x hx
      · rcases List.mem_append.mp hd with hd | hd
        · obtain ⟨g, hg, hd⟩ := List.mem_flatMap.mp hd
          exact (okn g hg).2 d hd
        · obtain rfl := List.mem_singleton.mp hd
          exact okc
/-! ### lists of groups, told apart -/
section
variable {K : PySem.W.Frag} {H : Hp}
/-- the rows' lists of some groups -/
theorem GAll.rows : ∀ {vs : List V} {gs : List Gp}, GAll K H vs gs → ∃ R : List (List V), R.length = vs.length ∧ (∀ i v, vs[i]? = some v → ∃ a nl rl, v = .ref a ∧ H a = some (.tup [.ref nl, .ref rl]) ∧ H rl = some (.lst (R.getD i [])) ∧ (R.getD i []).length = (gs.getD i ([], [])).2.length) ∧
    DpAll K H ((List.range vs.length).flatMap fun i => R.getD i []) ((gs.flatMap (·.2)).map dC)
  | _, _, .nil => ⟨[], rfl, fun i v e => by simp at e, .nil⟩
  | v :: vs, g :: gs, .cons h t => by
    obtain ⟨R, hl, hR, hd⟩ := GAll.rows t
    obtain ⟨a, nl, rl, rvs, rfl, h1, h2, h3, h4⟩ := h
    refine ⟨rvs :: R, by rw [List.length_cons, List.length_cons, hl], fun i v e => ?_, ?_⟩
    · cases i with
      | zero =>
        have e' : V.ref a = v := by simpa using e
        subst e'
        exact ⟨a, nl, rl, rfl, h1, h3, by have := dpLen h4; simpa using this⟩
      | succ i => exact hR i v (by simpa using e)
    · rw [List.length_cons, List.range_succ_eq_map, List.flatMap_cons, List.flatMap_map, List.flatMap_cons, List.map_append]
      exact dpApp h4 hd
theorem GAll.len {vs : List V} {gs : List Gp} (h : GAll K H vs gs) : vs.length = gs.length := Paired.length h
theorem GAll.zip : ∀ {vs : List V} {gs : List Gp}, GAll K H vs gs → ∀ p ∈ vs.zip gs, GAt K H p.1 p.2
  | _, _, .nil, p, hp => by cases hp
  | v :: vs, g :: gs, .cons h t, p, hp => by
    rcases List.mem_cons.mp (by simpa using hp) with e | e
    · subst e; exact h
    · exact GAll.zip t p e
theorem inV_strs (n : Str) (ns : List Str) : inV (.str n) (ns.map V.str) = decide (n ∈ ns) := by
  unfold inV
  rw [Bool.eq_iff_iff, List.any_eq_true, decide_eq_true_iff]
  constructor
  · rintro ⟨y, hy, e⟩
    obtain ⟨x, hx, rfl⟩ := List.mem_map.mp hy
    have e' : x = n := by simpa [eqV] using e
    rw [← e']
    exact hx
  · intro h
    exact ⟨.str n, List.mem_map.mpr ⟨n, h, rfl⟩, by simp [eqV]⟩
theorem flat_strs (ns : List Str) : (ns.map V.str).all flatV = true := by
  rw [List.all_eq_true]
  intro y hy
  obtain ⟨x, _, rfl⟩ := List.mem_map.mp hy
  rfl
theorem dp_bools : ∀ {acc : List V} {bs : List Bool}, DpAll K H acc (bs.map .bool) → acc = bs.map V.bl
  | _, [], h => by cases h; rfl
  | _, b :: bs, h => by
    cases h with
    | cons h1 h2 =>
      cases dp_bl h1
      rw [dp_bools h2]
      rfl
end
theorem mem_le_sum : ∀ {xs : List Nat} {a : Nat}, a ∈ xs → a ≤ xs.sum
  | x :: xs, a, h => by
    rw [List.sum_cons]
    rcases List.mem_cons.mp h with e | e
    · omega
    · have := mem_le_sum e
      omega
end Wc
set_option maxRecDepth 100000
set_option maxHeartbeats 8000000
/-! W25: the walk of groups. -/
namespace Wc
open PySem PySem.Spec PyProof.Rows L2
open PySem.W (dataLt alike)
section
variable {P : Program} {w : World} {K : PySem.W.Frag} {mg : Str → Option Value} {base : Heap} {f f1 f2 f3 : Addr} {fd fd1 fd2 fd3 : FuncData}
def spGroups (K : PySem.W.Frag) : Sp := fun vs H Q _ => ∃ (v : V) (cs : Cs), vs = [v] ∧ Dp K H v (dS cs) ∧ OkS cs ∧ Few cs ∧ ∀ H' y, Same H H' → Dp K H' y (.tuple ((groupsC cs).map dS)) → Q y H'
abbrev nGroups : List Str := ["clauses", "found", "clause", "names", "near", "far", "own", "rows", "name", "truth", "group", "row"]
theorem scGroups : FnScope nGroups ["clauses"] (defScope sGroups) := ⟨rfl, rfl, rfl, by decide +kernel, rfl, by decide +kernel, by decide +kernel⟩
abbrev gFor : Stmt := stAt sGroups 1
abbrev scG2 : Scope := scOf (retOf (forAt gFor 1))
abbrev scG2i : Scope := scOf (arg0 (ifOf (retOf (forAt gFor 1))))
theorem ok_groups (B : Blt mg) (G1 : FnOk P w K mg base CX0 1 f1 fd1 ["group"] (spLeastName K)) (D1 : Df K mg "least_name" sLeastName ["group"] f1 fd1) (D : Df K mg "groups" sGroups ["clauses"] f fd) : FnOk P w K mg base CX0 4 f fd ["clauses"] (spGroups K) := by
  refine D.fn.ok scGroups (fun vs H Q E h => ?_) (fun cdv A outer s H vs Q E hr h => ?_)
  · obtain ⟨v, l, rfl, _⟩ := h
    rfl
  · obtain ⟨v, cs, rfl, hd, ok, few, k⟩ := h
    obtain ⟨a, xs, rfl, ha, dx⟩ := dp_tup hd
    have lx : xs.length = cs.length := by have := dpLen dx; simpa using this
    refine ⟨_, pss_cons (ps_set (i := 1) scGroups.nd rfl (Or.inl rfl) (pe_lst pa_nil)) (pss_cons (ps_for PassesOwn.never rfl (pi_tup (pv 0)) (pg_name (i := 2) scGroups.nd rfl (Or.inl rfl))
        (pss_cons (ps_set (i := 3) scGroups.nd rfl (Or.inr rfl) (pe_lc (own := [("name", 8), ("truth", 9)]) (g := gTup K 2 (gCons (gName 8) (gCons (gName 9) gNil))) (tt := tYes) (te := tVar 8) rfl scGroups.nd (pi_tup (pv 2))
            (blkOk_by (N := nGroups) (sc := defScope sGroups) (by decide +kernel)) (fun _ _ _ _ _ => pg_tup rfl (pgs_cons (pg_name (i := 8) scGroups.nd rfl (Or.inl rfl)) (pgs_cons (pg_name (i := 9) scGroups.nd rfl (Or.inl rfl)) pgs_nil))) (fun _ _ _ _ _ => pts_nil) (fun _ _ _ _ _ => pv 8)))
        (pss_cons (ps_set (i := 4) scGroups.nd rfl (Or.inr rfl) (pe_lc (own := [("group", 10)]) (g := gName 10) (tt := tB (tCB (rAny K) (tCons (tLc (iList K (tVar 3)) (gName 8) tYes (tOp (rIn K false) (tVar 8) (tOp (rIxT K) (tVar 10) (tC (.int 0)))) [8]) tNil))) (te := tVar 10) rfl scGroups.nd (pi_list (pv 1))
            (blkOk_by (N := nGroups) (sc := defScope sGroups) (by decide +kernel)) (fun _ _ _ _ _ => pg_name (i := 10) scGroups.nd rfl (Or.inr rfl))
            (fun _ _ _ _ _ => pts_one (pt_val (pe_callB (cr_any rfl) (by rfl) B.any (by decide +kernel) (pa_cons (pe_lc (own := [("name", 8)]) (g := gName 8) (tt := tYes) (te := tOp (rIn K false) (tVar 8) (tOp (rIxT K) (tVar 10) (tC (.int 0)))) rfl scGroups.nd (pi_list (pv 3))
              (show BlkOk nGroups (rlb scG2 (defScope sGroups)) scG2i [("name", 8)] from blkOk_by (by decide +kernel)) (fun _ _ _ _ _ => pg_name (i := 8) scGroups.nd rfl (Or.inl rfl)) (fun _ _ _ _ _ => pts_nil) (fun _ _ _ _ _ => pe_cmpR op_in_seq (pv 8) (pe_ix ix_tup (pv 10) pe_int (fun _ _ => rfl)) (by rfl))) pa_nil))))
            (fun _ _ _ _ _ => pv 10)))
        (pss_cons (ps_setLc (i := 5) (own := [("group", 10)]) (g := gName 10) (tt := tTest (tOp (rInL K true) (tVar 10) (tVar 4))) (te := tVar 10) rfl scGroups.nd rfl rfl (sw_true rfl rfl rfl (by decide +kernel)) (pi_list (pv 1))
            (blkOk_by (N := nGroups) (sc := defScope sGroups) (by decide +kernel)) (fun _ _ _ _ _ => pg_name (i := 10) scGroups.nd rfl (Or.inl rfl)) (fun _ _ _ _ _ => pts_one (pt_cmpR (op_notInL (hu0 hr (by decide))) (pv 10) (pv 4) (by rfl))) (fun _ _ _ _ _ => pv 10))
        (pss_cons (ps_for PassesOwn.never rfl (pi_list (pv 4)) (pg_tup rfl (pgs_cons (pg_name (i := 6) scGroups.nd rfl (Or.inl rfl)) (pgs_cons (pg_name (i := 7) scGroups.nd rfl (Or.inl rfl)) pgs_nil)))
            (pss_one (ps_set (i := 3) scGroups.nd rfl (Or.inr rfl) (pe_op op_cat (pv 3) (pv 6)))))
        (pss_one (ps_set (i := 1) scGroups.nd rfl (Or.inl rfl) (pe_op op_cat (pv 5) (pe_lst (pa_cons (pe_tup (pa_cons (pv 3) (pa_cons (pe_op op_cat
            (pe_lc2 (own := [("own", 6), ("rows", 7), ("row", 11)]) (vs1 := [11]) (g := gTup K 2 (gCons (gName 6) (gCons (gName 7) gNil))) (tt := tYes) (wi1 := iList K (tVar 7)) (g1 := gName 11) (tt1 := tYes) (te := tVar 11) rfl scGroups.nd (pi_list (pv 4))
              (blkOk_by (N := nGroups) (sc := defScope sGroups) (by decide +kernel)) (by decide) (fun _ _ _ _ _ => pg_tup rfl (pgs_cons (pg_name (i := 6) scGroups.nd rfl (Or.inl rfl)) (pgs_cons (pg_name (i := 7) scGroups.nd rfl (Or.inl rfl)) pgs_nil))) (fun _ _ _ _ _ => pts_nil)
              (fun _ _ _ _ _ => pi_list (pv 7)) (fun _ _ _ _ _ => pg_name (i := 11) scGroups.nd rfl (Or.inl rfl)) (fun _ _ _ _ _ => pts_nil) (fun _ _ _ _ _ => pv 11))
            (pe_lst (pa_cons (pv 2) pa_nil))) pa_nil))) pa_nil))))))))))
      (pss_one (ps_ret (pe_callTy call_tuple_of (by rfl) B.tup (by decide +kernel) (pa_cons
        (pe_lc (own := [("names", 3), ("rows", 7)]) (g := gTup K 2 (gCons (gName 3) (gCons (gName 7) gNil))) (tt := tYes) (te := tCB (rTupOf K) (tCons (tCB (rSortedD K) (tCons (tVar 7) tNil)) tNil)) rfl scGroups.nd
          (pi_list (pe_callBK (cr_sortedKey rfl G1 (hr.mono (by decide)) D1.bd) (by rfl) B.srt (by decide +kernel) (pa_cons (pv 1) pa_nil) (pk_cons (pe_glob (v := .ref f1) rfl D1.mg rfl) pk_nil)))
          (blkOk_by (N := nGroups) (sc := defScope sGroups) (by decide +kernel)) (fun _ _ _ _ _ => pg_tup rfl (pgs_cons (pg_name (i := 3) scGroups.nd rfl (Or.inl rfl)) (pgs_cons (pg_name (i := 7) scGroups.nd rfl (Or.inl rfl)) pgs_nil))) (fun _ _ _ _ _ => pts_nil)
          (fun _ _ _ _ _ => pe_callTy call_tuple_of (by rfl) B.tup (by decide +kernel) (pa_cons (pe_callB (cr_sortedD (hu0 hr (by decide))) (by rfl) B.srt (by decide +kernel) (pa_cons (pv 7) pa_nil)) pa_nil))) pa_nil))))), ?_⟩
    refine ⟨Nat.zero_le _, fun fl hfl => ?_⟩
    refine ⟨_, rfl, a, rfl, ⟨_, seqT (same_upd hfl) ha⟩, for_it (walk_tup (xs := xs)) (fun i σ H' => Same H H' ∧ ∃ (fl : Addr) (vs : List V) (x2 x3 x4 x5 x6 x7 : Option V), σ = [some (.ref a), some (.ref fl), x2, x3, x4, x5, x6, x7, none, none, none, none] ∧ H' fl = some (.lst vs) ∧ GAll K H' vs ((cs.take i).foldl stepG []))
      ⟨same_upd hfl, fl, [], none, none, none, none, none, none, rfl, upd_same, .nil⟩ (fun i σ H' _ h => seqT h.1 ha) ?_ ?_⟩
    · rintro i x _ H1 _ hi ⟨s1, fl, vs, x2, x3, x4, x5, x6, x7, rfl, hfl1, gv⟩ ⟨rfl, hx⟩
      obtain ⟨hic, dxi⟩ := dp_at (enc := dC) [] dx hx
      obtain ⟨b, zs, rfl, hb, dz⟩ := dp_tup dxi
      have hcm : cs.getD i [] ∈ cs := mem_getD [] hic
      have hc12 := few.2 _ hcm
      have hco := ok _ hcm
      have etake : cs.take (i + 1) = cs.take i ++ [cs.getD i []] := by rw [List.take_add_one, List.getD_eq_getElem?_getD, at_ix hic]; rfl
      generalize hc : cs.getD i [] = c at *
      generalize hgs : (cs.take i).foldl stepG [] = gs at gv
      have gb : GB i gs := by
        rw [← hgs]
        clear hgs gv etake hx hcm
        have : ∀ j, j ≤ cs.length → GB j ((cs.take j).foldl stepG []) := fun j => by
          induction j with
          | zero => intro _; exact ⟨Nat.zero_le _, Nat.zero_le _, Nat.zero_le _, fun g hg => by cases hg⟩
          | succ j ih =>
            intro hj
            have hj' : j < cs.length := hj
            rw [List.take_add_one, at_ix hj', List.foldl_append]
            exact step_bound (ih (Nat.le_of_lt hj')) (few.2 _ (List.getElem_mem hj')) (ok _ (List.getElem_mem hj'))
        exact this i (Nat.le_of_lt hic)
      have lz : zs.length = c.length := by have := dpLen dz; simpa using this
      have i12 : i ≤ 12 := Nat.le_trans (Nat.le_of_lt hic) few.1
      -- names
      refine ⟨_, rfl, b, rfl, ⟨_, seqT s1 hb⟩, fun D1 hD1 => lcW (K := K) (walk_tup (xs := zs)) hD1 (by rw [lz]; exact Nat.le_trans hc12 (by decide)) (fun H' e => seqT e (seqT s1 hb)) (fun i => some (.str (c.getD i ("", false)).1)) (fun i d _ e => by cases e; rfl) ?_ ?_⟩
      · rintro j y _ H2 Rt Rf hj sm ⟨rfl, hy⟩ hT _
        obtain ⟨hjc, dy⟩ := dp_at (enc := dL) ("", false) (dpAllSame (s1.trans sm) _ _ dz) hy
        obtain ⟨e, rfl, he⟩ := dp_lit dy
        exact ⟨e, _, rfl, he, rfl, _, _, rfl, _, _, rfl, rfl, rfl, tyes ⟨_, rfl, hT _ _ _ rfl (Same.refl _) (.str _)⟩⟩
      intro H2 acc1 sm2 hD1' da1
      have e3 : (List.range zs.length).filterMap (fun i => some (PyData.str (c.getD i ("", false)).1)) = (c.map (·.1)).map .str := by
        rw [lz, fmap_range c (fun l => some (PyData.str l.1)) ("", false), List.map_map]
        clear hc lz dz hcm hc12 hco etake dxi da1
        induction c with
        | nil => rfl
        | cons l c ih => rw [List.filterMap_cons, List.map_cons, ih]; rfl
      rw [e3] at da1
      have e4 := dp_strs da1
      subst e4
      generalize hns : c.map (·.1) = ns at *
      have lns : ns.length ≤ 12 := by rw [← hns, List.length_map]; exact hc12
      have hfl2 := sm2 _ _ hfl1
      have gv2 := gv.same sm2
      have lvs := gv.len
      have lgs := gb.len
      -- near
      refine ⟨_, rfl, fl, rfl, ⟨_, SqL.of hfl2⟩, fun D2 hD2 => lcV (walk_list (xs := vs)) hD2 (by rw [lvs]; exact Nat.le_trans lgs (Nat.le_trans i12 (by decide))) (fun H' e => Same.seq e (SqL.of hfl2)) (fun i => if nearB ns (gs.getD i ([], [])) = true then vs[i]? else none) ?_ ?_⟩
      · rintro j y _ H3 Rt Rf hj sm ⟨rfl, hy⟩ hT hF
        obtain ⟨hjg, ga⟩ := (gv2.same sm).at hy
        obtain ⟨e, nl, rl, rvs, rfl, g1, g2, g3, g4⟩ := ga
        have hjm : gs.getD j ([], []) ∈ gs := mem_getD _ hjg
        refine ⟨rfl, ⟨_, rfl, D1, rfl, ⟨_, SqL.of (sm _ _ hD1')⟩, fun D3 hD3 => lcW (K := K) (walk_list (xs := ns.map V.str)) hD3 (by rw [List.length_map]; exact Nat.le_trans lns (by decide)) (fun H' e => Same.seq e (SqL.of (sm _ _ hD1'))) (fun i => some (.bool (decide (ns.getD i "" ∈ (gs.getD j ([], [])).1)))) (fun i d _ e => by cases e; rfl) ?_ ?_⟩⟩
        · rintro t z _ H4 Rt2 Rf2 ht sm4 ⟨rfl, hz⟩ hT2 _
          obtain ⟨htn, dz⟩ := dp_at (enc := PyData.str) "" (strs_dp (K := K) (H := H4) ns) hz
          cases dp_str dz
          refine ⟨rfl, tyes ⟨_, rfl, _, rfl, e, _, 0, _, rfl, rfl, SqT.of (sm4 _ _ g1), atI_nat (j := 0) rfl, nl, _, rfl, .inl (SqL.of (sm4 _ _ g2)), rfl, flat_strs _, ?_⟩⟩
          have ei : (if false = true then !inV (V.str (ns.getD t "")) ((gs.getD j ([], [])).1.map V.str) else inV (V.str (ns.getD t "")) ((gs.getD j ([], [])).1.map V.str)) = decide (ns.getD t "" ∈ (gs.getD j ([], [])).1) := by rw [if_neg Bool.false_ne_true, inV_strs]
          rw [ei]
          exact hT2 _ _ _ rfl (Same.refl _) (.bl _)
        · intro H4 acc4 sm4 hD3' da4
          have e5 : (List.range (ns.map V.str).length).filterMap (fun i => some (PyData.bool (decide (ns.getD i "" ∈ (gs.getD j ([], [])).1)))) = (ns.map fun n => decide (n ∈ (gs.getD j ([], [])).1)).map .bool := by
            rw [List.length_map, fmap_range ns (fun n => some (PyData.bool (decide (n ∈ (gs.getD j ([], [])).1)))) "", List.map_map]
            generalize (gs.getD j ([], [])).1 = gn
            clear hns lns hD1' da4 da1 e3 hT hF
            induction ns with
            | nil => rfl
            | cons l c ih => rw [List.filterMap_cons, List.map_cons, ih]; rfl
          rw [e5] at da4
          have e6 := dp_bools da4
          subst e6
          refine ⟨D3, _, rfl, SqL.of hD3', _, rfl, ?_⟩
          have e7 : (ns.map fun n => decide (n ∈ (gs.getD j ([], [])).1)).any id = nearB ns (gs.getD j ([], [])) := by
            unfold nearB
            rw [List.any_map]
            rfl
          rw [e7]
          cases e8 : nearB ns (gs.getD j ([], [])) with
          | true => exact iteT ⟨_, rfl, hT _ _ (by rw [if_pos e8]; exact hy) sm4⟩
          | false => exact iteF (hF _ (by rw [if_neg (by rw [e8]; exact Bool.false_ne_true)]) sm4)
      intro H3 sm3 hD2'
      have gn := (gv2.same sm3).sel (nearB ns)
      rw [← lvs] at gn
      generalize hnv : ((List.range vs.length).filterMap fun i => if nearB ns (gs.getD i ([], [])) = true then vs[i]? else none) = nv at gn hD2'
      have enear : gs.filter (nearB ns) = nearG gs ns := rfl
      rw [enear] at gn
      have oknear : ∀ g ∈ nearG gs ns, OkG g := fun g hg => gb.ok g (List.mem_filter.mp hg).1
      have lnear : (nearG gs ns).length ≤ 12 := Nat.le_trans (List.length_filter_le _ _) (Nat.le_trans lgs i12)
      have hfl3 := sm3 _ _ hfl2
      have gv3 := gv2.same sm3
      -- far
      refine ⟨_, rfl, fl, rfl, ⟨_, SqL.of hfl3⟩, fun D4 hD4 => lcV (walk_list (xs := vs)) hD4 (by rw [lvs]; exact Nat.le_trans lgs (Nat.le_trans i12 (by decide))) (fun H' e => Same.seq e (SqL.of hfl3)) (fun i => if (!decide (gs.getD i ([], []) ∈ nearG gs ns)) = true then vs[i]? else none) ?_ ?_⟩
      · rintro j y _ H4 Rt Rf hj sm ⟨rfl, hy⟩ hT hF
        obtain ⟨hjg, ga⟩ := (gv3.same sm).at hy
        have hjm : gs.getD j ([], []) ∈ gs := mem_getD _ hjg
        refine ⟨rfl, ⟨_, rfl, _, rfl, _, (nearG gs ns).map dG, ga.dp, .lst (SqL.of (sm _ _ hD2')) ((gn.same sm).dp), sh_dG (gb.ok _ hjm), sh_dGs oknear, _, rfl, ?_⟩⟩
        by_cases c9 : gs.getD j ([], []) ∈ nearG gs ns
        · rw [(any_iff eqv_dG).mpr c9]
          exact iteF (hF _ (by rw [decide_eq_true c9]; rfl) (Same.refl _))
        · rw [any_no eqv_dG c9]
          exact iteT ⟨_, rfl, hT _ _ (by rw [decide_eq_false c9]; exact hy) (Same.refl _)⟩
      intro H4 sm4 hD4'
      have gf := (gv3.same sm4).sel fun g => !decide (g ∈ nearG gs ns)
      rw [← lvs] at gf
      generalize hfv : ((List.range vs.length).filterMap fun i => if (!decide (gs.getD i ([], []) ∈ nearG gs ns)) = true then vs[i]? else none) = fv at gf hD4'
      have efar : (gs.filter fun g => !decide (g ∈ nearG gs ns)) = farG gs ns := rfl
      rw [efar] at gf
      have hD2'4 := sm4 _ _ hD2'
      have gn4 := gn.same sm4
      have lnv := gn4.len
      -- names = names + own
      refine ⟨_, rfl, D2, rfl, ⟨_, SqL.of hD2'4⟩, for_it (walk_list (xs := nv)) (fun j σ H' => Same H4 H' ∧ ∃ (nl : Addr) (y6 y7 : Option V), σ = [some (.ref a), some (.ref fl), some (.ref b), some (.ref nl), some (.ref D2), some (.ref D4), y6, y7, none, none, none, none] ∧
          H' nl = some (.lst (((nearG gs ns).take j).foldl (fun m g => m ++ g.1) ns |>.map V.str)))
        ⟨Same.refl _, D1, x6, x7, rfl, sm4 _ _ (sm3 _ _ hD1')⟩ (fun j σ H' _ h => Same.seq h.1 (SqL.of hD2'4)) ?_ ?_⟩
      · rintro j y _ H5 _ hj ⟨s5, nl, y6, y7, rfl, hnl⟩ ⟨rfl, hy⟩
        obtain ⟨hjg, ga⟩ := (gn4.same s5).at hy
        obtain ⟨e, ol, rl, rvs, rfl, g1, g2, g3, g4⟩ := ga
        have hjt : (nearG gs ns).take (j + 1) = (nearG gs ns).take j ++ [(nearG gs ns).getD j ([], [])] := by rw [List.take_add_one, List.getD_eq_getElem?_getD, at_ix hjg]; rfl
        have hsum : ((nearG gs ns).take (j + 1)).foldl (fun m g => m ++ g.1) ns = ((nearG gs ns).take j).foldl (fun m g => m ++ g.1) ns ++ ((nearG gs ns).getD j ([], [])).1 := by rw [hjt, List.foldl_append]; rfl
        have hlen : (((nearG gs ns).take (j + 1)).foldl (fun m g => m ++ g.1) ns).length ≤ 156 := by
          rw [foldl_app_len]
          have h1 : (((nearG gs ns).take (j + 1)).map fun g => g.1.length).sum ≤ ((nearG gs ns).map fun g => g.1.length).sum := by
            have e : (nearG gs ns).map (fun g => g.1.length) = ((nearG gs ns).take (j + 1)).map (fun g => g.1.length) ++ ((nearG gs ns).drop (j + 1)).map (fun g => g.1.length) := by rw [← List.map_append, List.take_append_drop]
            rw [e, List.sum_append]
            exact Nat.le_add_right _ _
          have h2 := sum_filter (fun g : Gp => g.1.length) (nearB ns) gs
          have h3 := gb.names
          have h4 : ((nearG gs ns).map fun g => g.1.length).sum ≤ (gs.map fun g => g.1.length).sum := h2
          omega
        rw [hsum, List.length_append] at hlen
        refine ⟨e, _, rfl, SqT.of g1, rfl, _, _, rfl, _, _, rfl, rfl, ?_⟩
        refine ⟨_, rfl, _, rfl, nl, ol, _, _, rfl, rfl, hnl, g2, by rw [List.length_map, List.length_map]; exact Nat.le_trans hlen (by decide), fun p hp => ?_⟩
        refine ⟨same_put s5 hp, p, _, _, rfl, ?_⟩
        rw [upd_same, hsum, List.map_append]
      · rintro σ H5 ⟨s5, nl, y6, y7, rfl, hnl⟩
        rw [List.take_of_length_le (Nat.le_of_eq lnv.symm)] at hnl
        have gn5 := gn4.same s5
        have gf5 := gf.same s5
        have hD2'5 := s5 _ _ hD2'4
        have hD4'5 := s5 _ _ hD4'
        obtain ⟨R, lR, hR, dR⟩ := gn5.rows
        have s05 : Same H H5 := (((s1.trans sm2).trans sm3).trans sm4).trans s5
        have lrow : ∀ j, j < nv.length → (R.getD j []).length ≤ 12 := fun j hj => by
          obtain ⟨_, _, _, _, _, _, e⟩ := hR j nv[j] (at_ix hj)
          rw [e]
          have h1 : (nearG gs ns).getD j ([], []) ∈ nearG gs ns := mem_getD _ (by rw [← lnv]; exact hj)
          have h2 : (nearG gs ns).getD j ([], []) ∈ gs := (List.mem_filter.mp h1).1
          have h3 := gb.rows
          have h4 : ((nearG gs ns).getD j ([], [])).2.length ≤ (gs.map fun g => g.2.length).sum := mem_le_sum (List.mem_map.mpr ⟨_, h2, rfl⟩)
          omega
        have hsz12 : nv.length * 12 ≤ sizeLine := by
          rw [lnv]
          exact Nat.le_trans (Nat.mul_le_mul_right 12 lnear) (by decide)
        refine ⟨_, rfl, _, rfl, _, rfl, D2, rfl, ⟨_, SqL.of hD2'5⟩, fun D6 hD6 => lcVOut (walk_list (xs := nv)) hD6 12 hsz12 (fun H' e => Same.seq e (SqL.of hD2'5)) (fun j => R.getD j []) lrow ?_ ?_⟩
        · rintro j y _ H6 acc Nx hj sm6 hacc hl6 ⟨rfl, hy⟩ hN
          obtain ⟨e, ol, rl, rfl, g1, g3, _⟩ := hR j y hy
          refine ⟨e, _, rfl, SqT.of (sm6 _ _ g1), rfl, _, _, rfl, _, _, rfl, rfl, rfl, tyes ⟨_, rfl, rl, rfl, ⟨_, SqL.of (sm6 _ _ g3)⟩, lcVIn (H1 := H5) (walk_list (xs := R.getD j [])) hD6 sm6 hacc (by have := lrow j hj; omega) (fun H' e => Same.seq e (SqL.of g3)) (R.getD j []) rfl ?_ ?_⟩⟩
          · rintro t z _ H7 Rt Rf ht sm7 ⟨rfl, hz⟩ hT
            exact ⟨rfl, tyes ⟨_, rfl, hT _ _ hz (Same.refl _)⟩⟩
          · intro H7 sm7 h7
            exact hN H7 sm7 h7
        · intro H6 sm6 hD6'
          have s06 := s05.trans sm6
          have lR12 : ((List.range nv.length).flatMap fun j => R.getD j []).length ≤ 144 := by
            have e := dpLen dR
            rw [e, List.length_map, List.length_flatMap]
            have h1 := sum_filter (fun g : Gp => g.2.length) (nearB ns) gs
            have h2 := gb.rows
            have h3 : ((nearG gs ns).map fun g => g.2.length).sum ≤ (gs.map fun g => g.2.length).sum := h1
            omega
          have lfv : fv.length ≤ 12 := by
            rw [gf5.len]
            exact Nat.le_trans (List.length_filter_le _ _) (Nat.le_trans lgs i12)
          refine ⟨_, rfl, Nat.succ_le_succ (Nat.zero_le _), fun p1 hp1 => ⟨D6, p1, _, _, rfl, rfl, by rw [upd_ne (ne_of_none hD6' hp1)]; exact hD6', upd_same, Nat.le_trans (Nat.add_le_add lR12 (Nat.le_refl 1)) (by decide), fun p2 hp2 => ⟨by show 2 ≤ sizeLine; decide, fun p3 hp3 => ⟨Nat.succ_le_succ (Nat.zero_le _), fun p4 hp4 => ?_⟩⟩⟩⟩
          have t1 : Same H6 (upd H6 p1 (.lst [V.ref b])) := same_upd hp1
          have t2 := same_put (u := .lst (((List.range nv.length).flatMap fun j => R.getD j []) ++ [V.ref b])) t1 hp2
          have t3 := same_put (u := .tup [.ref nl, .ref p2]) t2 hp3
          have t4 := same_put (u := .lst [V.ref p3]) t3 hp4
          refine ⟨D4, p4, _, _, rfl, rfl, t4 _ _ (sm6 _ _ hD4'5), upd_same, Nat.le_trans (Nat.add_le_add lfv (Nat.le_refl 1)) (by decide), fun p5 hp5 => ?_⟩
          have t5 := same_put (u := .lst (fv ++ [V.ref p3])) t4 hp5
          refine ⟨s06.trans t5, p5, fv ++ [V.ref p3], _, _, _, _, _, _, rfl, upd_same, ?_⟩
          rw [etake, List.foldl_append, hgs]
          show GAll K _ _ (stepG gs c)
          unfold stepG
          rw [hns]
          refine (gf5.same (sm6.trans t5)).app (.cons ⟨p3, nl, p2, _, rfl, (same_put (same_upd hp4) hp5) _ _ upd_same, t5 _ _ (sm6 _ _ hnl), (same_put (same_put (same_upd hp3) hp4) hp5) _ _ upd_same, ?_⟩ .nil)
          rw [List.map_append]
          exact dpApp (dpAllSame (sm6.trans t5) _ _ dR) (.cons (dpSame (s06.trans t5) _ _ dxi) .nil)
    · rintro σ H1 ⟨s1, fl, vs, x2, x3, x4, x5, x6, x7, rfl, hfl1, gv⟩
      rw [List.take_of_length_le (Nat.le_of_eq lx.symm)] at gv
      have gb : GB cs.length (cs.foldl stepG []) := by
        have : ∀ j, j ≤ cs.length → GB j ((cs.take j).foldl stepG []) := fun j => by
          induction j with
          | zero => intro _; exact ⟨Nat.zero_le _, Nat.zero_le _, Nat.zero_le _, fun g hg => by cases hg⟩
          | succ j ih =>
            intro hj
            have hj' : j < cs.length := hj
            rw [List.take_add_one, at_ix hj', List.foldl_append]
            exact step_bound (ih (Nat.le_of_lt hj')) (few.2 _ (List.getElem_mem hj')) (ok _ (List.getElem_mem hj'))
        have h := this cs.length (Nat.le_refl _)
        rw [List.take_length] at h
        exact h
      generalize hgs : cs.foldl stepG [] = gs at gv gb
      have lvs := gv.len
      have lgs := gb.len
      have l12 : gs.length ≤ 12 := Nat.le_trans lgs few.1
      -- sorted by the least name
      have efst : ((vs.zip gs).map fun q => (q.1, PyData.str (leastN q.2.1))).map (·.1) = vs := by
        rw [List.map_map]
        have : ((fun x : V × PyData => x.1) ∘ fun q : V × Gp => (q.1, PyData.str (leastN q.2.1))) = fun q => q.1 := rfl
        rw [this]
        exact List.map_fst_zip (Nat.le_of_eq lvs)
      have esnd : ((vs.zip gs).map fun q => (q.1, PyData.str (leastN q.2.1))).map (·.2) = (gs.map fun g => leastN g.1).map .str := by
        rw [List.map_map, List.map_map]
        have : ((fun x : V × PyData => x.2) ∘ fun q : V × Gp => (q.1, PyData.str (leastN q.2.1))) = (fun g : Gp => PyData.str (leastN g.1)) ∘ fun q => q.2 := rfl
        rw [this, ← List.map_map, List.map_snd_zip (Nat.le_of_eq lvs.symm)]
        rfl
      refine ⟨_, rfl, fl, (vs.zip gs).map (fun q => (q.1, PyData.str (leastN q.2.1))), rfl, rfl, by rw [efst]; exact SqL.of hfl1, by rw [esnd]; exact sortOk_strs _, ?_, fun H2 p s2 hp => ?_⟩
      · intro q hq H' Q' s' hQ E
        obtain ⟨z, hz, rfl⟩ := List.mem_map.mp hq
        obtain ⟨e, nl, rl, rvs, e1, g1, g2, g3, g4⟩ := (gv.zip z hz).same s'
        exact ⟨e, nl, _, z.2.1, by rw [e1], SqT.of g1, SqL.of g2, fun H2 s2 => hQ _ _ s2 (.str _)⟩
      · have hsrt : srt ((vs.zip gs).map fun q => (q.1, PyData.str (leastN q.2.1))) = ((vs.zip gs).mergeSort fun q r => !dataLt (.str (leastN r.2.1)) (.str (leastN q.2.1))).map fun q => (q.1, PyData.str (leastN q.2.1)) :=
          (PySem.W.sort_maps (r := fun q r : V × Gp => !dataLt (.str (leastN r.2.1)) (.str (leastN q.2.1))) _ fun _ _ _ _ => rfl).symm
        have hsnd : ((vs.zip gs).mergeSort fun q r => !dataLt (.str (leastN r.2.1)) (.str (leastN q.2.1))).map (·.2) = sortG gs := by
          unfold sortG
          rw [PySem.W.sort_maps (s := fun g h : Gp => !dataLt (.str (leastN h.1)) (.str (leastN g.1))) (fun q : V × Gp => q.2) fun _ _ _ _ => rfl, List.map_snd_zip (Nat.le_of_eq lvs.symm)]
        have hmem : ∀ q ∈ (vs.zip gs).mergeSort fun q r => !dataLt (.str (leastN r.2.1)) (.str (leastN q.2.1)), q ∈ vs.zip gs := fun q hq => (List.mergeSort_perm _ _).mem_iff.mp hq
        have hlen : ((vs.zip gs).mergeSort fun q r => !dataLt (.str (leastN r.2.1)) (.str (leastN q.2.1))).length ≤ 12 := by
          rw [(List.mergeSort_perm _ _).length_eq, List.length_zip]
          omega
        rw [hsrt, List.map_map]
        have ecomp : ((fun x : V × PyData => x.1) ∘ fun q : V × Gp => (q.1, PyData.str (leastN q.2.1))) = fun q => q.1 := rfl
        rw [ecomp]
        unfold groupsC at k
        rw [hgs, ← hsnd] at k
        generalize ((vs.zip gs).mergeSort fun q r => !dataLt (.str (leastN r.2.1)) (.str (leastN q.2.1))) = zs at hmem hlen k
        have sp : Same H1 (upd H2 p (.lst (zs.map fun q => q.1))) := same_put s2 hp
        refine ⟨p, rfl, ⟨_, SqL.of upd_same⟩, fun D hD => lcW (K := K) (walk_list (xs := zs.map fun q => q.1)) hD (by rw [List.length_map]; exact Nat.le_trans hlen (by decide)) (fun H' e => Same.seq e (SqL.of upd_same)) (fun i => some (dS (srtE dC (zs.getD i (.non, ([], []))).2.2))) (fun i d _ e => by cases e; exact nl_dS _) ?_ ?_⟩
        · rintro i x _ H3 Rt Rf hi sm ⟨rfl, hx⟩ hT _
          rw [List.getElem?_map] at hx
          have hiz : i < zs.length := by rw [List.length_map] at hi; exact hi
          rw [at_ix hiz] at hx
          obtain rfl : zs[i].1 = x := Option.some.inj hx
          have egd : zs.getD i (.non, ([], [])) = zs[i] := by rw [List.getD_eq_getElem?_getD, at_ix hiz]; rfl
          have hzm : zs[i] ∈ vs.zip gs := hmem _ (List.getElem_mem hiz)
          obtain ⟨e, nl, rl, rvs, e1, g1, g2, g3, g4⟩ := (gv.zip _ hzm).same (sp.trans sm)
          have lrv : rvs.length = zs[i].2.2.length := by
            have := dpLen g4
            rw [List.length_map] at this
            exact this
          have hzip : (rvs.zip (zs[i].2.2.map dC)).map (·.1) = rvs := List.map_fst_zip (by rw [List.length_map]; exact Nat.le_of_eq lrv)
          have hzip2 : (rvs.zip (zs[i].2.2.map dC)).map (·.2) = zs[i].2.2.map dC := List.map_snd_zip (by rw [List.length_map]; exact Nat.le_of_eq lrv.symm)
          refine ⟨e, _, e1, SqT.of g1, rfl, _, _, rfl, _, _, rfl, rfl, rfl, tyes ⟨_, rfl, rl, rvs.zip (zs[i].2.2.map dC), rfl, by rw [hzip]; exact SqL.of g3, fun q hq => dpAll_zip g4 q hq, by rw [hzip2]; exact sortOk_dC _, fun q hq => ⟨q, _, rfl, .inl ⟨SqL.of upd_same, fun q2 hq2 => ?_⟩⟩⟩⟩
          refine hT (dS (srtE dC zs[i].2.2)) _ _ (by show some (dS (srtE dC (zs.getD i (.non, ([], []))).2.2)) = _; rw [egd]) (same_put (same_upd hq) hq2) (dp_new hq2 (dpAllSame (same_upd hq) _ _ ?_))
          have hM : (srt (rvs.zip (zs[i].2.2.map dC))).map (·.2) = (srtE dC zs[i].2.2).map dC := by rw [srt_snd, hzip2, srtD_map]
          rw [← hM]
          exact dpAll_map (fun z : V × PyData => z.1) (fun z => z.2) _ fun z hz => dpAll_zip g4 z ((srt_perm _).mem_iff.mp hz)
        · intro H3 acc sm hD' da
          have e5 : (List.range (zs.map fun q => q.1).length).filterMap (fun i => some (dS (srtE dC (zs.getD i (.non, ([], []))).2.2))) = ((zs.map (·.2)).map fun g => srtE dC g.2).map dS := by
            rw [List.length_map, fmap_range zs (fun q => some (dS (srtE dC q.2.2))) (.non, ([], [])), List.map_map, List.map_map]
            clear hmem hlen k sp hD hD' da sm hp
            induction zs with
            | nil => rfl
            | cons l c ih => rw [List.filterMap_cons, List.map_cons, ih]; rfl
          rw [e5] at da
          exact ⟨D, acc, rfl, .inl ⟨SqL.of hD', fun q hq => k _ _ (same_put ((s1.trans sp).trans sm) hq) (dp_new hq da)⟩⟩
end
end Wc
set_option maxRecDepth 100000
set_option maxHeartbeats 8000000
/-! W26: rules and rows as data; lost_ways, rows_wanted, shown_by, need, are_numbers. -/
namespace Wc
open PySem PySem.Spec PyProof.Rows L2
open PySem.W (dataLt alike)

/-! ### rules, rows -/
inductive Rule where
  | void | free
  | unit (l : Lit) (r : Nat)
  | parts (rs : List Nat)
  | split (n : Str) (a b : Nat)
def dI (n : Nat) : PyData := .int (n : Nat)
def dR : Rule → PyData
  | .void => .tuple [.str "void"]
  | .free => .tuple [.str "free"]
  | .unit l r => .tuple [.str "unit", dL l, dI r]
  | .parts rs => .tuple [.str "parts", .tuple (rs.map dI)]
  | .split n a b => .tuple [.str "split", .str n, dI a, dI b]
structure Row where
  cs : Cs
  cnt : Nat
  rule : Rule
def dRow (r : Row) : PyData := .tuple [dS r.cs, dI r.cnt, dR r.rule]
instance : Inhabited Row := ⟨⟨[], 0, .free⟩⟩
theorem nl_dI (n : Nat) : noLst (dI n) = true := rfl
theorem nl_dR (r : Rule) : noLst (dR r) = true := by
  cases r with
  | void => rfl
  | free => rfl
  | unit l r => rfl
  | parts rs =>
    show noLstAll [_, _] = true
    have h : noLstAll (rs.map dI) = true := by simpa [noLst] using nl_map nl_dI rs
    simp only [noLstAll, h, noLst, Bool.and_self]
  | split n a b => rfl
theorem nl_dRow (r : Row) : noLst (dRow r) = true := by
  show noLstAll [_, _, _] = true
  simp only [noLstAll, nl_dS, nl_dR, nl_dI, Bool.and_self]
/-! ### ways that are lost -/
def lostN (cs : Cs) (l : Lit) (lo : Cs) : Nat := ((namesOf cs).filter fun n => decide (n ≠ l.1) && !decide (n ∈ namesOf lo)).length
def lostW (cs : Cs) (l : Lit) (lo : Cs) : Nat := 2 ^ lostN cs l lo
section
variable {X : Cx}
theorem ip_mul : PIp X .Mult (fun x y H Q => ∃ i j, x = .int i ∧ y = .int j ∧ CMul i j ∧ Q (.int (i * j)) H) := by
  intro pins s σ H x y v u Q I r1 r2 h
  obtain ⟨i, j, e1, e2, c, q⟩ := h
  subst e1; subst e2
  obtain ⟨t, rfl⟩ := r1
  obtain ⟨t', rfl⟩ := r2
  exact PySem.P.imul_int ⟨.int _, H, I.tok _, ⟨_, rfl⟩, q⟩ c.ok
end
section
variable {P : Program} {w : World} {K : PySem.W.Frag} {mg : Str → Option Value} {base : Heap} {f f1 f2 f3 : Addr} {fd fd1 fd2 fd3 : FuncData}
/-- a tuple of names -/
theorem dp_names {H : Hp} {v : V} {ns : List Str} (h : Dp K H v (dN ns)) : ∃ a, v = .ref a ∧ SqT K H a (ns.map V.str) := by
  obtain ⟨a, xs, rfl, ha, dx⟩ := dp_tup h
  rw [dp_strs dx] at ha
  exact ⟨a, rfl, ha⟩
theorem namesOf_len {cs : Cs} (h : Few cs) : (namesOf cs).length ≤ 144 := by
  unfold namesOf
  rw [srtE_len]
  refine Nat.le_trans (nub_len _) ?_
  rw [List.length_flatMap]
  have : ∀ ds : Cs, (∀ c ∈ ds, c.length ≤ 12) → (ds.map fun c => (c.map (·.1)).length).sum ≤ 12 * ds.length := fun ds hd => by
    induction ds with
    | nil => simp
    | cons d ds ih =>
      rw [List.map_cons, List.sum_cons, List.length_cons, List.length_map]
      have h1 := hd d (by simp)
      have h2 := ih fun c hc => hd c (by simp [hc])
      omega
  have h1 := this cs h.2
  have h2 := h.1
  omega
/-- some of the values of a list of texts -/
theorem sel_list {α β : Type} (p : α → Bool) (g : α → β) (d : α) : ∀ ns : List α, ((List.range ns.length).filterMap fun i => if p (ns.getD i d) = true then (ns.map g)[i]? else none) = (ns.filter p).map g
  | [] => rfl
  | n :: ns => by
    rw [List.length_cons, List.range_succ_eq_map, List.filterMap_cons, List.filterMap_map, List.filter_cons]
    have e : ((fun i => if p ((n :: ns).getD i d) = true then ((n :: ns).map g)[i]? else none) ∘ Nat.succ) = fun i => if p (ns.getD i d) = true then (ns.map g)[i]? else none := rfl
    rw [e, sel_list p g d ns]
    by_cases c : p n = true
    · simp [c]
    · simp [c]
theorem sel_strs (p : Str → Bool) (ns : List Str) : ((List.range (ns.map V.str).length).filterMap fun i => if p (ns.getD i "") = true then (ns.map V.str)[i]? else none) = (ns.filter p).map V.str := by
  rw [List.length_map]
  exact sel_list p V.str "" ns
theorem sel_all {β : Type} : ∀ xs : List β, (List.range xs.length).filterMap (fun i => xs[i]?) = xs
  | [] => rfl
  | n :: ns => by
    rw [List.length_cons, List.range_succ_eq_map, List.filterMap_cons, List.filterMap_map]
    have e : ((fun i => (n :: ns)[i]?) ∘ Nat.succ) = fun i => ns[i]? := by
      funext i
      simp
    rw [e, sel_all ns]
    rfl
theorem at_str {ns : List Str} {i : Nat} {x : V} (h : (ns.map V.str)[i]? = some x) : i < ns.length ∧ x = .str (ns.getD i "") := by
  rw [List.getElem?_map] at h
  cases q : ns[i]? with
  | none => rw [q] at h; cases h
  | some n =>
    rw [q] at h
    refine ⟨(List.getElem?_eq_some_iff.mp q).1, ?_⟩
    rw [List.getD_eq_getElem?_getD, q]
    exact (Option.some.inj h).symm
/-! ### lost_ways -/
def spLostWays (K : PySem.W.Frag) : Sp := fun vs H Q _ => ∃ (v u z : V) (cs lo : Cs) (l : Lit), vs = [v, u, z, .non] ∧ Dp K H v (dS cs) ∧ Dp K H u (dL l) ∧ Dp K H z (dS lo) ∧ Few cs ∧ Few lo ∧ ∀ H', Same H H' → Q (.int (lostW cs l lo : Nat)) H'
abbrev nLost : List Str := ["clauses", "literal", "lower", "shown", "left", "lost", "name"]
theorem scLost : FnScope nLost ["clauses", "literal", "lower", "shown"] (defScope sLostWays) := ⟨rfl, rfl, rfl, by decide +kernel, rfl, by decide +kernel, by decide +kernel⟩
theorem ok_lost_ways (B : Blt mg) (G1 : FnOk P w K mg base CX0 1 f1 fd1 ["clauses"] (spNamesIn K)) (D1 : Df K mg "names_in" sNamesIn ["clauses"] f1 fd1) (D : Df K mg "lost_ways" sLostWays ["clauses", "literal", "lower", "shown"] f fd) : FnOk P w K mg base CX0 2 f fd ["clauses", "literal", "lower", "shown"] (spLostWays K) := by
  refine D.fn.ok scLost (fun vs H Q E h => ?_) (fun cdv A outer s H vs Q E hr h => ?_)
  · obtain ⟨v, u, z, cs, lo, l, rfl, _⟩ := h
    rfl
  · obtain ⟨v, u, z, cs, lo, l, rfl, hd, hl, hlo, few, fewl, k⟩ := h
    obtain ⟨la, rfl, hla⟩ := dp_lit hl
    refine ⟨_, pss_cons (ps_set (i := 4) scLost.nd rfl (Or.inr rfl) (pe_call G1 hr rfl D1.mg D1.fn.kp D1.bd .nil pass0 (pa_cons (pv 2) pa_nil)))
      (pss_cons (ps_setLc (i := 5) (own := [("name", 6)]) (g := gName 6) (tt := tAnd (tTest (tOp rNe (tVar 6) (tOp (rIxT K) (tVar 1) (tC (.int 0))))) (tTest (tOp (rIn K true) (tVar 6) (tVar 4)))) (te := tVar 6) rfl scLost.nd rfl rfl (sw_true rfl rfl rfl (by decide +kernel))
          (pi_tup (pe_call G1 hr rfl D1.mg D1.fn.kp D1.bd .nil pass0 (pa_cons (pv 0) pa_nil))) (blkOk_by (N := nLost) (sc := defScope sLostWays) (by decide +kernel)) (fun _ _ _ _ _ => pg_name (i := 6) scLost.nd rfl (Or.inl rfl))
          (fun _ _ _ _ _ => pts_one (PW.pt (pw_and (pt_cmpR op_ne (pv 6) (pe_ix ix_tup (pv 1) pe_int (fun _ _ => rfl)) (nomark _)) (pw_and1 (pt_cmpR op_notIn_seq (pv 6) (pv 4) (by rfl)))))) (fun _ _ _ _ _ => pv 6))
      (pss_one (ps_ret (pe_op op_shl pe_int (pe_callB call_len_seq (by rfl) B.len PySem.boot_len (pa_cons
        (pe_lc (own := [("name", 6)]) (g := gName 6) (tt := tOr (tTest (tOp (fun x y H Q => y = .non ∧ Q (.bl (decide (x = .non))) H) (tVar 3) (tC .non))) (tTest (tOp (rIn K false) (tVar 6) (tVar 3)))) (te := tVar 6) rfl scLost.nd (pi_list (pv 5)) (blkOk_by (N := nLost) (sc := defScope sLostWays) (by decide +kernel)) (fun _ _ _ _ _ => pg_name (i := 6) scLost.nd rfl (Or.inl rfl))
          (fun _ _ _ _ _ => pts_one (PW.pt (pw_or (pt_cmpR op_isN (pv 3) pe_non (nomark _)) (pw_or1 (pt_cmpR op_in_seq (pv 6) (pv 3) (by rfl)))))) (fun _ _ _ _ _ => pv 6)) pa_nil)))))), ?_⟩
    refine ⟨_, rfl, _, lo, rfl, hlo, fewl, fun H1 y1 s1 d1 => ?_⟩
    obtain ⟨a1, rfl, h1⟩ := dp_names d1
    refine ⟨_, rfl, _, cs, rfl, dpSame s1 _ _ hd, few, fun H2 y2 s2 d2 => ?_⟩
    obtain ⟨a2, rfl, h2⟩ := dp_names d2
    have l2 := namesOf_len few
    refine ⟨a2, rfl, ⟨_, h2⟩, fun D' hD => lcV (walk_tup (xs := (namesOf cs).map V.str)) hD (by rw [List.length_map]; exact Nat.le_trans l2 (by decide)) (fun H' e => seqT e h2)
      (fun i => if (decide ((namesOf cs).getD i "" ≠ l.1) && !decide ((namesOf cs).getD i "" ∈ namesOf lo)) = true then ((namesOf cs).map V.str)[i]? else none) ?_ ?_⟩
    · rintro i x _ H3 Rt Rf hi sm ⟨rfl, hx⟩ hT hF
      obtain ⟨hin, rfl⟩ := at_str hx
      refine ⟨rfl, ⟨_, rfl, _, rfl, la, _, 0, _, rfl, rfl, seqT ((s1.trans s2).trans sm) hla, atI_nat (j := 0) rfl, rfl, _, rfl, ?_⟩⟩
      by_cases c1 : (namesOf cs).getD i "" = l.1
      · refine ifF (by rw [decide_eq_true (congrArg V.str c1)]; rfl) (ifF rfl (hF _ ?_ (Same.refl _)))
        rw [if_neg]
        rw [decide_eq_false (fun z => z c1)]
        exact Bool.false_ne_true
      · refine ifT (by rw [decide_eq_false fun z => c1 (by simpa using z)]; rfl) ⟨_, rfl, _, rfl, a1, _, rfl, .inr (seqT (s2.trans sm) h1), rfl, flat_strs _, _, rfl, ?_⟩
        have ei : (if true = true then !inV (V.str ((namesOf cs).getD i "")) ((namesOf lo).map V.str) else inV (V.str ((namesOf cs).getD i "")) ((namesOf lo).map V.str)) = !decide ((namesOf cs).getD i "" ∈ namesOf lo) := by rw [if_pos rfl, inV_strs]
        rw [ei]
        by_cases c2 : (namesOf cs).getD i "" ∈ namesOf lo
        · refine ifF (by rw [decide_eq_true c2]; rfl) (hF _ ?_ (Same.refl _))
          rw [if_neg]
          rw [decide_eq_true c2, Bool.not_true, Bool.and_false]
          exact Bool.false_ne_true
        · refine ifT (by rw [decide_eq_false c2]; rfl) ⟨_, rfl, hT _ _ ?_ (Same.refl _)⟩
          rw [if_pos (by rw [decide_eq_false c2, decide_eq_true c1]; rfl)]
          exact hx
    · intro H3 sm hD'
      rw [sel_strs (fun n => decide (n ≠ l.1) && !decide (n ∈ namesOf lo))] at hD'
      have lf : ((namesOf cs).filter fun n => decide (n ≠ l.1) && !decide (n ∈ namesOf lo)).length ≤ 144 := Nat.le_trans (List.length_filter_le _ _) l2
      refine ⟨_, rfl, D', rfl, ⟨_, SqL.of hD'⟩, fun D3 hD3 => lcV (walk_list (xs := ((namesOf cs).filter fun n => decide (n ≠ l.1) && !decide (n ∈ namesOf lo)).map V.str)) hD3 (by rw [List.length_map]; exact Nat.le_trans lf (by decide)) (fun H' e => Same.seq e (SqL.of hD'))
        (fun i => (((namesOf cs).filter fun n => decide (n ≠ l.1) && !decide (n ∈ namesOf lo)).map V.str)[i]?) ?_ ?_⟩
      · rintro i x _ H4 Rt Rf hi sm4 ⟨rfl, hx⟩ hT hF
        exact ⟨rfl, ⟨_, rfl, rfl, _, rfl, ifT (decide_eq_true rfl) (ifT rfl ⟨_, rfl, hT _ _ hx (Same.refl _)⟩)⟩⟩
      · intro H4 sm4 hD4
        generalize hns : ((namesOf cs).filter fun n => decide (n ≠ l.1) && !decide (n ∈ namesOf lo)) = ns at *
        rw [sel_all] at hD4
        refine ⟨D3, _, rfl, .inl (SqL.of hD4), _, _, rfl, rfl, ⟨by omega, by rw [List.length_map]; omega, by decide⟩, ?_⟩
        have ek := k _ (((s1.trans s2).trans sm).trans sm4)
        have e2 : (1 : Int) * 2 ^ ((ns.map V.str).length : Int).toNat = ((lostW cs l lo : Nat) : Int) := by
          unfold lostW lostN
          rw [hns, List.length_map, Int.toNat_natCast, Int.one_mul]
          simp
        show Q (.int ((1 : Int) * 2 ^ ((ns.map V.str).length : Int).toNat)) H4
        rw [e2]
        exact ek
end
end Wc
set_option maxRecDepth 100000
set_option maxHeartbeats 8000000
/-! W27: rows_wanted, shown_by, need, are_numbers, count_by. -/
namespace Wc
open PySem PySem.Spec PyProof.Rows L2
open PySem.W (dataLt alike)
section
variable {P : Program} {w : World} {K : PySem.W.Frag} {mg : Str → Option Value} {base : Heap} {f f1 f2 f3 : Addr} {fd fd1 fd2 fd3 : FuncData}
/-! ### rules, opened -/
theorem dI_cast {n : Nat} {H : Hp} {v : V} (h : Dp K H v (dI n)) : v = .int (n : Nat) := dp_int h
theorem dp_ints {H : Hp} : ∀ {vs : List V} {ns : List Nat}, DpAll K H vs (ns.map dI) → vs = ns.map fun n : Nat => V.int (n : Int)
  | _, [], h => by cases h; rfl
  | _, n :: ns, h => by
    cases h with
    | cons h1 h2 =>
      cases dI_cast h1
      rw [dp_ints h2]
      rfl
def ruleWord : Rule → Str
  | .void => "void"
  | .free => "free"
  | .unit _ _ => "unit"
  | .parts _ => "parts"
  | .split _ _ _ => "split"
/-- a rule as it lies -/
theorem dp_rule {H : Hp} {v : V} {r : Rule} (h : Dp K H v (dR r)) : ∃ (a : Addr) (xs : List V), v = .ref a ∧ SqT K H a (.str (ruleWord r) :: xs) ∧ (match r with
    | .void => xs = []
    | .free => xs = []
    | .unit l i => ∃ u, xs = [u, .int (i : Nat)] ∧ Dp K H u (dL l)
    | .parts rs => ∃ b, xs = [.ref b] ∧ SqT K H b (rs.map fun n : Nat => V.int (n : Int))
    | .split n i j => xs = [.str n, .int (i : Nat), .int (j : Nat)]) := by
  cases r with
  | void =>
    obtain ⟨a, xs, rfl, ha, dx⟩ := dp_tup h
    cases dx with | cons d1 dx => cases dx; cases dp_str d1; exact ⟨a, _, rfl, ha, rfl⟩
  | free =>
    obtain ⟨a, xs, rfl, ha, dx⟩ := dp_tup h
    cases dx with | cons d1 dx => cases dx; cases dp_str d1; exact ⟨a, _, rfl, ha, rfl⟩
  | unit l i =>
    obtain ⟨a, xs, rfl, ha, dx⟩ := dp_tup h
    cases dx with | cons d1 dx => cases dx with | cons d2 dx => cases dx with | cons d3 dx => cases dx; cases dp_str d1; cases dI_cast d3; exact ⟨a, _, rfl, ha, _, rfl, d2⟩
  | parts rs =>
    obtain ⟨a, xs, rfl, ha, dx⟩ := dp_tup h
    cases dx with
    | cons d1 dx =>
    cases dx with
    | cons d2 dx =>
    cases dx
    cases dp_str d1
    obtain ⟨b, ys, rfl, hb, dy⟩ := dp_tup d2
    rw [dp_ints dy] at hb
    exact ⟨a, _, rfl, ha, b, rfl, hb⟩
  | split n i j =>
    obtain ⟨a, xs, rfl, ha, dx⟩ := dp_tup h
    cases dx with | cons d1 dx => cases dx with | cons d2 dx => cases dx with | cons d3 dx => cases dx with | cons d4 dx => cases dx; cases dp_str d1; cases dp_str d2; cases dI_cast d3; cases dI_cast d4; exact ⟨a, _, rfl, ha, rfl⟩
/-! ### rows_wanted -/
def wanted : Rule → List Nat
  | .unit _ i => [i]
  | .split _ i j => [i, j]
  | .parts rs => rs
  | _ => []
def spRowsWanted (K : PySem.W.Frag) : Sp := fun vs H Q _ => ∃ (v : V) (r : Rule), vs = [v] ∧ Dp K H v (dR r) ∧ ∀ H' a, Same H H' → SqT K H' a ((wanted r).map fun n : Nat => V.int (n : Int)) → Q (.ref a) H'
theorem scRowsWanted : FnScope ["rule"] ["rule"] (defScope sRowsWanted) := ⟨rfl, rfl, rfl, by decide +kernel, rfl, by decide +kernel, by decide +kernel⟩
theorem cut2 (a b c d : V) : cutV [a, b, c, d] (some 2) none = [c, d] := rfl
theorem ok_rows_wanted (D : Df K mg "rows_wanted" sRowsWanted ["rule"] f fd) : FnOk P w K mg base CX0 1 f fd ["rule"] (spRowsWanted K) := by
  refine D.fn.ok scRowsWanted (fun vs H Q E h => ?_) (fun cdv A outer s H vs Q E hr h => ?_)
  · obtain ⟨v, r, rfl, _⟩ := h
    rfl
  · obtain ⟨v, r, rfl, hd, k⟩ := h
    obtain ⟨a, xs, rfl, ha, hx⟩ := dp_rule hd
    refine ⟨_, pss_cons (ps_if (pt_cmpR op_eq (pe_ix ix_tup (pv 0) pe_int (fun _ _ => rfl)) pe_str (nomark _)) (pss_one (ps_ret (pe_tup (pa_cons (pe_ix ix_tup (pv 0) pe_int (fun _ _ => rfl)) pa_nil)))) pss_nil)
      (pss_cons (ps_if (pt_cmpR op_eq (pe_ix ix_tup (pv 0) pe_int (fun _ _ => rfl)) pe_str (nomark _)) (pss_one (ps_ret (pe_slice sl_tupA (pv 0) (po_some pe_int) po_none))) pss_nil)
      (pss_one (ps_ret (pe_ifExp (pt_cmpR op_eq (pe_ix ix_tup (pv 0) pe_int (fun _ _ => rfl)) pe_str (nomark _)) (pe_ix ix_tup (pv 0) pe_int (fun _ _ => rfl)) (pe_tup pa_nil))))), ?_⟩
    refine ⟨_, rfl, a, _, 0, _, rfl, rfl, ha, atI_nat (j := 0) rfl, rfl, _, rfl, ?_⟩
    cases r with
    | void =>
      refine ifF rfl ⟨_, rfl, a, _, 0, _, rfl, rfl, ha, atI_nat (j := 0) rfl, rfl, _, rfl, ifF rfl ⟨_, rfl, a, _, 0, _, rfl, rfl, ha, atI_nat (j := 0) rfl, rfl, _, rfl, ifF rfl ⟨Nat.zero_le _, fun p hp => k _ p (same_upd hp) (SqT.of upd_same)⟩⟩⟩
    | free =>
      refine ifF rfl ⟨_, rfl, a, _, 0, _, rfl, rfl, ha, atI_nat (j := 0) rfl, rfl, _, rfl, ifF rfl ⟨_, rfl, a, _, 0, _, rfl, rfl, ha, atI_nat (j := 0) rfl, rfl, _, rfl, ifF rfl ⟨Nat.zero_le _, fun p hp => k _ p (same_upd hp) (SqT.of upd_same)⟩⟩⟩
    | unit l i =>
      obtain ⟨u, rfl, _⟩ := hx
      exact ifT rfl ⟨_, rfl, a, _, 2, _, rfl, rfl, ha, atI_nat (j := 2) rfl, Nat.succ_le_succ (Nat.zero_le _), fun p hp => k _ p (same_upd hp) (SqT.of upd_same)⟩
    | parts rs =>
      obtain ⟨b, rfl, hb⟩ := hx
      refine ifF rfl ⟨_, rfl, a, _, 0, _, rfl, rfl, ha, atI_nat (j := 0) rfl, rfl, _, rfl, ifF rfl ⟨_, rfl, a, _, 0, _, rfl, rfl, ha, atI_nat (j := 0) rfl, rfl, _, rfl, ifT rfl ⟨_, rfl, a, _, 1, _, rfl, rfl, ha, atI_nat (j := 1) rfl, k _ b (Same.refl _) hb⟩⟩⟩
    | split n i j =>
      obtain rfl := hx
      refine ifF rfl ⟨_, rfl, a, _, 0, _, rfl, rfl, ha, atI_nat (j := 0) rfl, rfl, _, rfl, ifT rfl ⟨_, rfl, 2, rfl, a, _, rfl, ha, fun hw => ?_, fun _ p hp => ?_⟩⟩
      · have h0 : HT.sIx 4 0 (some 2) = 0 := hw.1
        exact absurd h0 (by decide)
      · rw [cut2]
        exact k _ p (same_upd hp) (SqT.of upd_same)
/-! ### shown_by -/
def shownW (ns : List Str) (cs : Cs) : Nat := (ns.filter fun n => !decide (n ∈ namesOf cs)).length
def spShownBy (K : PySem.W.Frag) : Sp := fun vs H Q _ => ∃ (v u : V) (ns : List Str) (cs : Cs) (c : Nat), vs = [v, u, .int (c : Nat)] ∧ Dp K H v (dN ns) ∧ Dp K H u (dS cs) ∧ Few cs ∧ ns.length ≤ 1000 ∧ c < 2 ^ 63 ∧ ∀ H', Same H H' → Q (.int (c * 2 ^ shownW ns cs : Nat)) H'
abbrev nShown : List Str := ["names", "clauses", "count", "left", "name"]
theorem scShown : FnScope nShown ["names", "clauses", "count"] (defScope sShownBy) := ⟨rfl, rfl, rfl, by decide +kernel, rfl, by decide +kernel, by decide +kernel⟩
theorem ok_shown_by (B : Blt mg) (G1 : FnOk P w K mg base CX0 1 f1 fd1 ["clauses"] (spNamesIn K)) (D1 : Df K mg "names_in" sNamesIn ["clauses"] f1 fd1) (D : Df K mg "shown_by" sShownBy ["names", "clauses", "count"] f fd) : FnOk P w K mg base CX0 2 f fd ["names", "clauses", "count"] (spShownBy K) := by
  refine D.fn.ok scShown (fun vs H Q E h => ?_) (fun cdv A outer s H vs Q E hr h => ?_)
  · obtain ⟨v, u, ns, cs, c, rfl, _⟩ := h
    rfl
  · obtain ⟨v, u, ns, cs, c, rfl, hn, hd, few, ln, hc, k⟩ := h
    obtain ⟨an, rfl, han⟩ := dp_names hn
    refine ⟨_, pss_cons (ps_set (i := 3) scShown.nd rfl (Or.inr rfl) (pe_call G1 hr rfl D1.mg D1.fn.kp D1.bd .nil pass0 (pa_cons (pv 1) pa_nil)))
      (pss_one (ps_ret (pe_op op_shl (pv 2) (pe_callB call_len_seq (by rfl) B.len PySem.boot_len (pa_cons
        (pe_lc (own := [("name", 4)]) (g := gName 4) (tt := tTest (tOp (rIn K true) (tVar 4) (tVar 3))) (te := tVar 4) rfl scShown.nd (pi_tup (pv 0)) (blkOk_by (N := nShown) (sc := defScope sShownBy) (by decide +kernel)) (fun _ _ _ _ _ => pg_name (i := 4) scShown.nd rfl (Or.inl rfl))
          (fun _ _ _ _ _ => pts_one (pt_cmpR op_notIn_seq (pv 4) (pv 3) (by rfl))) (fun _ _ _ _ _ => pv 4)) pa_nil))))), ?_⟩
    refine ⟨_, rfl, _, cs, rfl, hd, few, fun H1 y1 s1 d1 => ?_⟩
    obtain ⟨a1, rfl, h1⟩ := dp_names d1
    refine ⟨_, rfl, _, rfl, an, rfl, ⟨_, seqT s1 han⟩, fun D' hD => lcV (walk_tup (xs := ns.map V.str)) hD (by rw [List.length_map]; exact Nat.le_trans ln (by decide)) (fun H' e => seqT e (seqT s1 han))
      (fun i => if (!decide (ns.getD i "" ∈ namesOf cs)) = true then (ns.map V.str)[i]? else none) ?_ ?_⟩
    · rintro i x _ H3 Rt Rf hi sm ⟨rfl, hx⟩ hT hF
      obtain ⟨hin, rfl⟩ := at_str hx
      refine ⟨rfl, ⟨_, rfl, _, rfl, a1, _, rfl, .inr (seqT sm h1), rfl, flat_strs _, _, rfl, ?_⟩⟩
      have ei : (if true = true then !inV (V.str (ns.getD i "")) ((namesOf cs).map V.str) else inV (V.str (ns.getD i "")) ((namesOf cs).map V.str)) = !decide (ns.getD i "" ∈ namesOf cs) := by rw [if_pos rfl, inV_strs]
      rw [ei]
      by_cases c2 : ns.getD i "" ∈ namesOf cs
      · refine ifF (by rw [decide_eq_true c2]; rfl) (hF _ ?_ (Same.refl _))
        rw [if_neg]
        rw [decide_eq_true c2]
        exact Bool.false_ne_true
      · refine ifT (by rw [decide_eq_false c2]; rfl) ⟨_, rfl, hT _ _ ?_ (Same.refl _)⟩
        rw [if_pos (by rw [decide_eq_false c2]; rfl)]
        exact hx
    · intro H3 sm hD'
      rw [sel_strs (fun n => !decide (n ∈ namesOf cs))] at hD'
      have lf : (ns.filter fun n => !decide (n ∈ namesOf cs)).length ≤ 1000 := Nat.le_trans (List.length_filter_le _ _) ln
      have hc64 : ((c : Nat) : Int).natAbs < 2 ^ 64 := by
        have : ((c : Nat) : Int).natAbs = c := Int.natAbs_natCast c
        rw [this]
        exact Nat.lt_trans hc (by decide)
      refine ⟨D', _, rfl, .inl (SqL.of hD'), _, _, rfl, rfl, ⟨by omega, by rw [List.length_map]; omega, hc64⟩, ?_⟩
      have e2 : ((c : Nat) : Int) * 2 ^ (((ns.filter fun n => !decide (n ∈ namesOf cs)).map V.str).length : Int).toNat = ((c * 2 ^ shownW ns cs : Nat) : Int) := by
        unfold shownW
        rw [List.length_map, Int.toNat_natCast]
        simp
      show Q (.int (((c : Nat) : Int) * 2 ^ (((ns.filter fun n => !decide (n ∈ namesOf cs)).map V.str).length : Int).toNat)) H3
      rw [e2]
      exact k _ (s1.trans sm)
/-! ### need -/
def spNeed : Sp := fun vs H Q _ => ∃ u z : V, vs = [.bl true, u, z] ∧ Q .non H
theorem scNeed : FnScope ["truth", "word", "at"] ["truth", "word", "at"] (defScope sNeed) := ⟨rfl, rfl, rfl, by decide +kernel, rfl, by decide +kernel, by decide +kernel⟩
theorem ok_need (D : Df K mg "need" sNeed ["truth", "word", "at"] f fd) : FnOk P w K mg base CX0 1 f fd ["truth", "word", "at"] spNeed := by
  refine D.fn.ok scNeed (fun vs H Q E h => ?_) (fun cdv A outer s H vs Q E hr h => ?_)
  · obtain ⟨u, z, rfl, _⟩ := h
    rfl
  · obtain ⟨u, z, rfl, k⟩ := h
    refine ⟨_, pss_one (ps_if (pt_not (pt_val (pv 0))) (pss_one ps_never) pss_nil), ?_⟩
    exact ⟨_, rfl, true, rfl, iteF k⟩
/-! ### are_numbers -/
def spAreNumbers (K : PySem.W.Frag) : Sp := fun vs H Q _ => ∃ (a : Addr) (ns : List Nat), vs = [.ref a] ∧ (SqL K H a (ns.map fun n : Nat => V.int (n : Int)) ∨ SqT K H a (ns.map fun n : Nat => V.int (n : Int))) ∧ ns.length ≤ 1000 ∧ ∀ H', Same H H' → Q (.bl true) H'
theorem pi_or {X : Cx} {tg l : Expr} {w1 w2 : TI} (h1 : PI X tg l w1) (h2 : PI X tg l w2) : PI X tg l (fun σ H R => w1 σ H R ∨ w2 σ H R) := ⟨fun pins s σ H R I h => h.elim (h1.run pins s σ H R I) (h2.run pins s σ H R I)⟩
theorem scAreNumbers : FnScope ["things", "one"] ["things"] (defScope sAreNumbers) := ⟨rfl, rfl, rfl, by decide +kernel, rfl, by decide +kernel, by decide +kernel⟩
theorem ok_are_numbers (B : Blt mg) (G1 : FnOk P w K mg base CX0 1 f1 fd1 ["thing"] spIsNumber) (D1 : Df K mg "is_number" sIsNumber ["thing"] f1 fd1) (D : Df K mg "are_numbers" sAreNumbers ["things"] f fd) : FnOk P w K mg base CX0 2 f fd ["things"] (spAreNumbers K) := by
  refine D.fn.ok scAreNumbers (fun vs H Q E h => ?_) (fun cdv A outer s H vs Q E hr h => ?_)
  · obtain ⟨a, ns, rfl, _⟩ := h
    rfl
  · obtain ⟨a, ns, rfl, ha, ln, k⟩ := h
    refine ⟨_, pss_one (ps_ret (pe_callB (cr_all rfl) (by rfl) B.all (by decide +kernel) (pa_cons
      (pe_lc (own := [("one", 1)]) (g := gName 1) (tt := tYes) (te := tCall spIsNumber [] E0 (tCons (tVar 1) tNil)) rfl scAreNumbers.nd (pi_or (pi_list (pv 0)) (pi_tup (pv 0))) (blkOk_by (N := ["things", "one"]) (sc := defScope sAreNumbers) (by decide +kernel)) (fun _ _ _ _ _ => pg_name (i := 1) scAreNumbers.nd rfl (Or.inl rfl)) (fun _ _ _ _ _ => pts_nil)
        (fun _ _ _ _ _ => pe_call G1 hr rfl D1.mg D1.fn.kp D1.bd .nil pass0 (pa_cons (pv 1) pa_nil))) pa_nil))), ?_⟩
    have core : ∀ (i : Nat) (x : V) (H2 : Hp) (Rt : VK) (Rf : Hp → Prop), (ns.map fun n : Nat => V.int (n : Int))[i]? = some x → (∀ d y H4, some (PyData.bool true) = some d → Same H2 H4 → Dp K H4 y d → Rt y H4) →
        gName 1 x (wipe (L2.start ["things", "one"] [V.ref a]) [1]) H2 fun σ2 H2 => wipe σ2 [1] = wipe (L2.start ["things", "one"] [V.ref a]) [1] ∧ tYes σ2 H2 fun b H3 => if b = true then tCall spIsNumber [] E0 (tCons (tVar 1) tNil) σ2 H3 Rt else Rf H3 := by
      intro i x H2 Rt Rf hx hT
      rw [List.getElem?_map] at hx
      cases q : ns[i]? with
      | none => rw [q] at hx; cases hx
      | some n =>
        rw [q] at hx
        obtain rfl : V.int (n : Int) = x := Option.some.inj hx
        exact ⟨rfl, tyes ⟨_, rfl, _, rfl, hT _ _ _ rfl (Same.refl _) (.bl _)⟩⟩
    have lm : (ns.map fun n : Nat => V.int (n : Int)).length ≤ sizeLine := by rw [List.length_map]; exact Nat.le_trans ln (by decide)
    have fin : ∀ (D' : Addr) (H2 : Hp) (acc : List V), Same H H2 → H2 D' = some (.lst acc) → DpAll K H2 acc ((List.range (ns.map fun n : Nat => V.int (n : Int)).length).filterMap fun _ => some (.bool true)) →
        tCB (rAll K) (fun _ H2 Q2 => Q2 [.ref D'] H2) (L2.start ["things", "one"] [V.ref a]) H2 Q := by
      intro D' H2 acc sm hD' da
      have e := all_true da
      subst e
      refine ⟨D', _, rfl, SqL.of hD', ?_⟩
      rw [all_rep]
      exact k _ sm
    rcases ha with ha | ha
    · exact .inl ⟨_, rfl, a, rfl, ⟨_, ha⟩, fun D' hD => lcW (K := K) (walk_list (xs := ns.map fun n : Nat => V.int (n : Int))) hD lm (fun H' e => Same.seq e ha) (fun _ => some (.bool true)) (fun i d _ e => by cases e; rfl)
        (by rintro i x _ H2 Rt Rf hi sm ⟨rfl, hx⟩ hT _; exact core i x _ Rt Rf hx hT) (fun H2 acc sm hD' da => fin D' H2 acc sm hD' da)⟩
    · exact .inr ⟨_, rfl, a, rfl, ⟨_, ha⟩, fun D' hD => lcW (K := K) (walk_tup (xs := ns.map fun n : Nat => V.int (n : Int))) hD lm (fun H' e => seqT e ha) (fun _ => some (.bool true)) (fun i d _ e => by cases e; rfl)
        (by rintro i x _ H2 Rt Rf hi sm ⟨rfl, hx⟩ hT _; exact core i x _ Rt Rf hx hT) (fun H2 acc sm hD' da => fin D' H2 acc sm hD' da)⟩
/-! ### count_by -/
def rowAt (rows : List Row) (i : Nat) : Row := rows.getD i default
def cntBy (rows : List Row) (cs : Cs) : Rule → Nat
  | .void => 0
  | .free => 1
  | .unit l i => (rowAt rows i).cnt * lostW cs l (rowAt rows i).cs
  | .parts rs => rs.foldl (fun acc i => acc * (rowAt rows i).cnt) 1
  | .split n a b => (rowAt rows a).cnt * lostW cs (n, false) (rowAt rows a).cs + (rowAt rows b).cnt * lostW cs (n, true) (rowAt rows b).cs
/-- rows in a list or a tuple -/
def Trail (K : PySem.W.Frag) (H : Hp) (a : Addr) (rows : List Row) : Prop := ∃ vs, (SqL K H a vs ∨ SqT K H a vs) ∧ DpAll K H vs (rows.map dRow)
theorem Trail.same {H H' : Hp} {a : Addr} {rows : List Row} (e : Same H H') (h : Trail K H a rows) : Trail K H' a rows := by
  obtain ⟨vs, h1, h2⟩ := h
  exact ⟨vs, h1.elim (fun z => .inl (Same.seq e z)) (fun z => .inr (seqT e z)), dpAllSame e _ _ h2⟩
theorem rix_at {H : Hp} {a : Addr} {rows : List Row} {r : Nat} {Q : VK} (h : Trail K H a rows) (hr : r < rows.length) (hQ : ∀ v, Dp K H v (dRow (rowAt rows r)) → Q v H) : rIx K (.ref a) (.int (r : Nat)) H Q := by
  obtain ⟨vs, h1, h2⟩ := h
  have l := dpLen h2
  rw [List.length_map] at l
  have hv : vs[r]? = some vs[r] := at_ix (by omega)
  obtain ⟨_, d⟩ := dp_at (enc := dRow) default h2 hv
  rcases h1 with h1 | h1
  · exact .inl ⟨a, vs, _, _, rfl, rfl, h1, atI_nat hv, hQ _ d⟩
  · exact .inr (.inl ⟨a, vs, _, _, rfl, rfl, h1, atI_nat hv, hQ _ d⟩)
theorem dp_row {H : Hp} {v : V} {r : Row} (h : Dp K H v (dRow r)) : ∃ (b : Addr) (u z : V), v = .ref b ∧ SqT K H b [u, .int (r.cnt : Nat), z] ∧ Dp K H u (dS r.cs) ∧ Dp K H z (dR r.rule) := by
  obtain ⟨a, xs, rfl, ha, dx⟩ := dp_tup h
  cases dx with | cons d1 dx => cases dx with | cons d2 dx => cases dx with | cons d3 dx => cases dx; cases dI_cast d2; exact ⟨a, _, _, rfl, ha, d1, d3⟩
/-- the rows that a rule names are there -/
structure CbOk (rows : List Row) (r : Nat) : Prop where
  lt : r < rows.length
  few : ∀ q ∈ rows, Few q.cs
  cnt : ∀ q ∈ rows, q.cnt < 2 ^ 63
  ahead : ∀ i ∈ wanted (rowAt rows r).rule, i < rows.length
  short : (wanted (rowAt rows r).rule).length ≤ 1000
theorem rowAt_mem {rows : List Row} {i : Nat} (h : i < rows.length) : rowAt rows i ∈ rows := mem_getD _ h
def spCountBy (K : PySem.W.Frag) : Sp := fun vs H Q _ => ∃ (a : Addr) (r : Nat) (rows : List Row), vs = [.ref a, .int (r : Nat), .non] ∧ Trail K H a rows ∧ CbOk rows r ∧ ∀ H', Same H H' → Q (.int (cntBy rows (rowAt rows r).cs (rowAt rows r).rule : Nat)) H'
abbrev nCount : List Str := ["trail", "r", "shown", "clauses", "count", "rule", "lower", "many", "found", "i", "truth"]
theorem scCount : FnScope nCount ["trail", "r", "shown"] (defScope sCountBy) := ⟨rfl, rfl, rfl, by decide +kernel, rfl, by decide +kernel, by decide +kernel⟩
theorem ok_count_by (B : Blt mg) (G1 : FnOk P w K mg base CX0 2 f1 fd1 ["clauses", "literal", "lower", "shown"] (spLostWays K)) (D1 : Df K mg "lost_ways" sLostWays ["clauses", "literal", "lower", "shown"] f1 fd1) (D : Df K mg "count_by" sCountBy ["trail", "r", "shown"] f fd) : FnOk P w K mg base CX0 3 f fd ["trail", "r", "shown"] (spCountBy K) := by
  refine D.fn.ok scCount (fun vs H Q E h => ?_) (fun cdv A outer s H vs Q E hr h => ?_)
  · obtain ⟨a, r, rows, rfl, _⟩ := h
    rfl
  · obtain ⟨a, r, rows, rfl, tr, ok, k⟩ := h
    refine ⟨_, pss_cons (ps_asg (pe_ix ix_seq (pv 0) (pv 1) (fun _ _ => rfl)) (pg_tup rfl (pgs_cons (pg_name (i := 3) scCount.nd rfl (Or.inl rfl)) (pgs_cons (pg_name (i := 4) scCount.nd rfl (Or.inl rfl)) (pgs_cons (pg_name (i := 5) scCount.nd rfl (Or.inl rfl)) pgs_nil)))))
      (pss_cons (ps_if (pt_cmpR op_eq (pe_ix ix_tup (pv 5) pe_int (fun _ _ => rfl)) pe_str (nomark _)) (pss_one (ps_ret pe_int)) pss_nil)
      (pss_cons (ps_if (pt_cmpR op_eq (pe_ix ix_tup (pv 5) pe_int (fun _ _ => rfl)) pe_str (nomark _))
          (pss_cons (ps_asg (pe_slice sl_tupA (pe_ix ix_seq (pv 0) (pe_ix ix_tup (pv 5) pe_int (fun _ _ => rfl)) (fun _ _ => rfl)) po_none (po_some pe_int)) (pg_tup rfl (pgs_cons (pg_name (i := 6) scCount.nd rfl (Or.inl rfl)) (pgs_cons (pg_name (i := 7) scCount.nd rfl (Or.inl rfl)) pgs_nil))))
          (pss_one (ps_ret (pe_op op_mul (pv 7) (pe_call G1 hr rfl D1.mg D1.fn.kp D1.bd .nil pass0 (pa_cons (pv 3) (pa_cons (pe_ix ix_tup (pv 5) pe_int (fun _ _ => rfl)) (pa_cons (pv 6) (pa_cons (pv 2) pa_nil))))))))) pss_nil)
      (pss_cons (ps_set (i := 8) scCount.nd rfl (Or.inl rfl) pe_int)
      (pss_cons (ps_if (pt_cmpR op_eq (pe_ix ix_tup (pv 5) pe_int (fun _ _ => rfl)) pe_str (nomark _))
          (pss_one (ps_for PassesOwn.never rfl (pi_tup (pe_ix ix_tup (pv 5) pe_int (fun _ _ => rfl))) (pg_name (i := 9) scCount.nd rfl (Or.inl rfl))
            (pss_one (ps_aug (i := 8) scCount.nd rfl (Or.inl rfl) (pe_ix ix_tup (pe_ix ix_seq (pv 0) (pv 9) (fun _ _ => rfl)) pe_int (fun _ _ => rfl)) ip_mul)))) pss_nil)
      (pss_cons (ps_if (pt_cmpR op_eq (pe_ix ix_tup (pv 5) pe_int (fun _ _ => rfl)) pe_str (nomark _))
          (pss_cons (ps_set (i := 8) scCount.nd rfl (Or.inl rfl) pe_int)
          (pss_one (ps_for PassesOwn.never rfl (pi_zipS (by rfl) B.zip (pa_cons (pe_tup (pa_cons pe_bl (pa_cons pe_bl pa_nil))) (pa_cons (pe_slice sl_tupA (pv 5) (po_some pe_int) po_none) pa_nil)) pe_bl)
            (pg_tup rfl (pgs_cons (pg_name (i := 10) scCount.nd rfl (Or.inl rfl)) (pgs_cons (pg_name (i := 9) scCount.nd rfl (Or.inl rfl)) pgs_nil)))
            (pss_one (ps_aug (i := 8) scCount.nd rfl (Or.inl rfl) (pe_op op_mul (pe_ix ix_tup (pe_ix ix_seq (pv 0) (pv 9) (fun _ _ => rfl)) pe_int (fun _ _ => rfl))
              (pe_call G1 hr rfl D1.mg D1.fn.kp D1.bd .nil pass0 (pa_cons (pv 3) (pa_cons (pe_tup (pa_cons (pe_ix ix_tup (pv 5) pe_int (fun _ _ => rfl)) (pa_cons (pv 10) pa_nil))) (pa_cons (pe_ix ix_tup (pe_ix ix_seq (pv 0) (pv 9) (fun _ _ => rfl)) pe_int (fun _ _ => rfl)) (pa_cons (pv 2) pa_nil)))))) ip_add))))) pss_nil)
      (pss_one (ps_ret (pv 8)))))))), ?_⟩
    refine ⟨_, rfl, _, rfl, rix_at tr ok.lt fun v dv => ?_⟩
    obtain ⟨ar, u, z, rfl, har, du, dz⟩ := dp_row dv
    have fc : Few (rowAt rows r).cs := ok.few _ (rowAt_mem ok.lt)
    generalize hcs : (rowAt rows r).cs = cs at *
    generalize hru : (rowAt rows r).rule = ru at *
    have hah : ∀ i ∈ wanted ru, i < rows.length := by rw [← hru]; exact ok.ahead
    refine ⟨ar, _, rfl, har, rfl, _, _, rfl, _, _, rfl, _, _, rfl, rfl, ?_⟩
    obtain ⟨rr, xs, rfl, hrr, hx⟩ := dp_rule dz
    have few : ∀ {i : Nat}, i < rows.length → Few (rowAt rows i).cs := fun h => ok.few _ (rowAt_mem h)
    have cnt : ∀ {i : Nat}, i < rows.length → CMul ((rowAt rows i).cnt : Nat) ((rowAt rows i).cnt : Nat) := fun h => .inl ⟨by have := ok.cnt _ (rowAt_mem h); omega, by have := ok.cnt _ (rowAt_mem h); omega⟩
    refine ⟨_, rfl, rr, _, 0, _, rfl, rfl, hrr, atI_nat (j := 0) rfl, rfl, _, rfl, ?_⟩
    cases ru with
    | void => exact ifT rfl (k _ (Same.refl _))
    | free =>
      refine ifF rfl ⟨_, rfl, rr, _, 0, _, rfl, rfl, hrr, atI_nat (j := 0) rfl, rfl, _, rfl, ifF rfl ?_⟩
      refine ⟨_, rfl, rr, _, 0, _, rfl, rfl, hrr, atI_nat (j := 0) rfl, rfl, _, rfl, ifF rfl ?_⟩
      refine ⟨_, rfl, rr, _, 0, _, rfl, rfl, hrr, atI_nat (j := 0) rfl, rfl, _, rfl, ifF rfl ?_⟩
      exact ⟨_, rfl, k _ (Same.refl _)⟩
    | unit l i =>
      obtain ⟨ul, rfl, dl⟩ := hx
      have hi : i < rows.length := hah i (by simp [wanted])
      refine ifF rfl ⟨_, rfl, rr, _, 0, _, rfl, rfl, hrr, atI_nat (j := 0) rfl, rfl, _, rfl, ifT rfl ?_⟩
      refine ⟨_, rfl, _, rfl, rr, _, 2, _, rfl, rfl, hrr, atI_nat (j := 2) rfl, rix_at tr hi fun v2 dv2 => ?_⟩
      obtain ⟨ai, ui, zi, rfl, hai, dui, dzi⟩ := dp_row dv2
      refine ⟨2, rfl, ai, _, rfl, hai, fun hw => ?_, fun _ p hp => ?_⟩
      · have h0 : HT.sIx 3 3 (some 2) = 3 := hw.2
        exact absurd h0 (by decide)
      have e1 : cutV [ui, V.int ((rowAt rows i).cnt : Nat), zi] none (some 2) = [ui, V.int ((rowAt rows i).cnt : Nat)] := rfl
      rw [e1]
      have s1 : Same H (upd H p (.tup [ui, V.int ((rowAt rows i).cnt : Nat)])) := same_upd hp
      refine ⟨p, _, rfl, SqT.of upd_same, rfl, _, _, rfl, _, _, rfl, rfl, ?_⟩
      refine ⟨_, rfl, _, rfl, _, rfl, rr, _, 1, _, rfl, rfl, seqT s1 hrr, atI_nat (j := 1) rfl, _, rfl, _, rfl, ?_⟩
      refine ⟨_, _, _, cs, (rowAt rows i).cs, l, rfl, dpSame s1 _ _ du, dpSame s1 _ _ dl, dpSame s1 _ _ dui, fc, few hi, fun H2 s2 => ?_⟩
      refine ⟨_, _, rfl, rfl, .inl ⟨by have := ok.cnt _ (rowAt_mem hi); omega, by have := ok.cnt _ (rowAt_mem hi); omega⟩, ?_⟩
      have := k H2 (s1.trans s2)
      unfold cntBy at this
      rw [Int.natCast_mul] at this
      exact this
    | parts rs =>
      obtain ⟨b, rfl, hb⟩ := hx
      refine ifF rfl ⟨_, rfl, rr, _, 0, _, rfl, rfl, hrr, atI_nat (j := 0) rfl, rfl, _, rfl, ifF rfl ?_⟩
      refine ⟨_, rfl, rr, _, 0, _, rfl, rfl, hrr, atI_nat (j := 0) rfl, rfl, _, rfl, ifT rfl ?_⟩
      refine ⟨_, rfl, rr, _, 1, _, rfl, rfl, hrr, atI_nat (j := 1) rfl, b, rfl, ⟨_, hb⟩, for_it (walk_tup (xs := rs.map fun n : Nat => V.int (n : Int))) (fun j σ H' => H' = H ∧ ∃ x9, σ = [some (.ref a), some (.int (r : Nat)), some .non, some u, some (.int ((rowAt rows r).cnt : Nat)), some (.ref rr), none, none, some (.int (((rs.take j).foldl (fun acc i => acc * (rowAt rows i).cnt) 1 : Nat) : Int)), x9, none])
        ⟨rfl, none, rfl⟩ (fun j σ H' _ h => by rw [h.1]; exact hb) ?_ ?_⟩
      · rintro j x _ H1 _ hj ⟨rfl, x9, rfl⟩ ⟨rfl, hx⟩
        rw [List.length_map] at hj
        rw [List.getElem?_map, at_ix hj] at hx
        obtain rfl := Option.some.inj hx
        have hi : rs[j] < rows.length := hah _ (List.getElem_mem hj)
        refine ⟨_, rfl, _, rfl, _, rfl, rix_at tr hi fun v2 dv2 => ?_⟩
        obtain ⟨ai, ui, zi, rfl, hai, dui, dzi⟩ := dp_row dv2
        refine ⟨ai, _, 1, _, rfl, rfl, hai, atI_nat (j := 1) rfl, _, _, rfl, rfl, .inr ⟨by have := ok.cnt _ (rowAt_mem hi); omega, by have := ok.cnt _ (rowAt_mem hi); omega⟩, rfl, some (.int (rs[j] : Nat)), ?_⟩
        rw [List.take_add_one, at_ix hj, List.foldl_append, ← Int.natCast_mul]
        rfl
      · rintro σ H1 ⟨rfl, x9, rfl⟩
        refine ⟨_, rfl, rr, _, 0, _, rfl, rfl, hrr, atI_nat (j := 0) rfl, rfl, _, rfl, ifF rfl ?_⟩
        refine ⟨_, rfl, ?_⟩
        have := k H1 (Same.refl _)
        rw [List.take_of_length_le (by rw [List.length_map]; exact Nat.le_refl _)]
        exact this
    | split n i j =>
      obtain rfl := hx
      have hi : i < rows.length := hah i (by simp [wanted])
      have hj : j < rows.length := hah j (by simp [wanted])
      refine ifF rfl ⟨_, rfl, rr, _, 0, _, rfl, rfl, hrr, atI_nat (j := 0) rfl, rfl, _, rfl, ifF rfl ?_⟩
      refine ⟨_, rfl, rr, _, 0, _, rfl, rfl, hrr, atI_nat (j := 0) rfl, rfl, _, rfl, ifF rfl ?_⟩
      refine ⟨_, rfl, rr, _, 0, _, rfl, rfl, hrr, atI_nat (j := 0) rfl, rfl, _, rfl, ifT rfl ?_⟩
      refine ⟨Nat.succ_le_succ (Nat.succ_le_succ (Nat.zero_le _)), fun p1 hp1 => ⟨_, rfl, 2, rfl, rr, _, rfl, seqT (same_upd hp1) hrr, fun hw => ?_, fun _ p2 hp2 => ?_⟩⟩
      · have h0 : HT.sIx 4 0 (some 2) = 0 := hw.1
        exact absurd h0 (by decide)
      rw [cut2]
      have s1 : Same H (upd H p1 (.tup [.bl false, .bl true])) := same_upd hp1
      have s2 : Same H (upd (upd H p1 (.tup [.bl false, .bl true])) p2 (.tup [.int (i : Nat), .int (j : Nat)])) := same_put s1 hp2
      refine ⟨p1, p2, _, _, rfl, rfl, SqT.of (by rw [upd_ne (ne_of_none upd_same hp2)]; exact upd_same), SqT.of upd_same, ?_⟩
      obtain ⟨acc, h0, h1, h2⟩ : ∃ acc : Nat → Nat, acc 0 = 0 ∧ acc 1 = acc 0 + (rowAt rows i).cnt * lostW cs (n, false) (rowAt rows i).cs ∧ acc 2 = acc 1 + (rowAt rows j).cnt * lostW cs (n, true) (rowAt rows j).cs :=
        ⟨fun t => (if 0 < t then (rowAt rows i).cnt * lostW cs (n, false) (rowAt rows i).cs else 0) + (if 1 < t then (rowAt rows j).cnt * lostW cs (n, true) (rowAt rows j).cs else 0), by simp, by simp, by simp⟩
      refine for_it (walk_zipS (xs := [.bl false, .bl true]) (ys := [.int (i : Nat), .int (j : Nat)]) rfl) (fun t σ H' => Same (upd (upd H p1 (.tup [.bl false, .bl true])) p2 (.tup [.int (i : Nat), .int (j : Nat)])) H' ∧ ∃ x9 x10, σ = [some (.ref a), some (.int (r : Nat)), some .non, some u, some (.int ((rowAt rows r).cnt : Nat)), some (.ref rr), none, none, some (.int (acc t : Nat)), x9, x10])
        ⟨Same.refl _, none, none, by rw [h0]; rfl⟩ (fun t σ H' _ h => ⟨seqT h.1 (SqT.of (by rw [upd_ne (ne_of_none upd_same hp2)]; exact upd_same)), seqT h.1 (SqT.of upd_same)⟩) ?_ ?_
      · rintro t x _ H1 _ ht ⟨sm, x9, x10, rfl⟩ ⟨T, bv, iv, rfl, hT, rfl, hb, hv⟩
        obtain ⟨truth, q, hq, rfl, rfl, hacc⟩ : ∃ truth q, q < rows.length ∧ bv = .bl truth ∧ iv = .int (q : Nat) ∧ acc (t + 1) = acc t + (rowAt rows q).cnt * lostW cs (n, truth) (rowAt rows q).cs := by
          match t, ht with
          | 0, _ => exact ⟨false, i, hi, (Option.some.inj hb).symm, (Option.some.inj hv).symm, h1⟩
          | 1, _ => exact ⟨true, j, hj, (Option.some.inj hb).symm, (Option.some.inj hv).symm, h2⟩
        have s3 := same_put (u := .tup [.bl truth, .int (q : Nat)]) sm hT
        have s03 := s2.trans s3
        refine ⟨T, _, rfl, SqT.of upd_same, rfl, _, _, rfl, _, _, rfl, rfl, ?_⟩
        refine ⟨_, rfl, _, rfl, _, rfl, rix_at (tr.same s03) hq fun v2 dv2 => ?_⟩
        obtain ⟨ai, ui, zi, rfl, hai, dui, dzi⟩ := dp_row dv2
        refine ⟨ai, _, 1, _, rfl, rfl, hai, atI_nat (j := 1) rfl, ?_⟩
        refine ⟨_, rfl, _, rfl, rr, _, 1, _, rfl, rfl, seqT s03 hrr, atI_nat (j := 1) rfl, _, rfl, Nat.succ_le_succ (Nat.succ_le_succ (Nat.zero_le _)), fun p3 hp3 => ?_⟩
        have s4 := same_put (u := .tup [V.str n, .bl truth]) s3 hp3
        have s04 := s2.trans s4
        refine ⟨_, rfl, _, rfl, rix_at (tr.same s04) hq fun v3 dv3 => ?_⟩
        obtain ⟨ai3, ui3, zi3, rfl, hai3, dui3, dzi3⟩ := dp_row dv3
        refine ⟨ai3, _, 0, _, rfl, rfl, hai3, atI_nat (j := 0) rfl, _, rfl, ?_⟩
        refine ⟨_, _, _, cs, (rowAt rows q).cs, (n, truth), rfl, dpSame s04 _ _ du, .tup (SqT.of upd_same) (.cons (.str _) (.cons (.bl _) .nil)), dui3, fc, few hq, fun H2 s5 => ?_⟩
        refine ⟨_, _, rfl, rfl, .inl ⟨by have := ok.cnt _ (rowAt_mem hq); omega, by have := ok.cnt _ (rowAt_mem hq); omega⟩, ?_⟩
        refine ⟨_, _, rfl, rfl, s4.trans s5, some (.int (q : Nat)), some (.bl truth), ?_⟩
        rw [hacc, Int.natCast_add, Int.natCast_mul]
        rfl
      · rintro σ H1 ⟨sm, x9, x10, rfl⟩
        refine ⟨_, rfl, ?_⟩
        have := k H1 (s2.trans sm)
        unfold cntBy at this
        show Q (.int (acc 2 : Nat)) H1
        rw [h2, h1, h0, Nat.zero_add]
        exact this
end
end Wc
set_option maxRecDepth 100000
set_option maxHeartbeats 8000000
/-! W28: is_rule, is_row, need_rows. -/
namespace Wc
open PySem PySem.Spec PyProof.Rows L2
open PySem.W (dataLt alike)
def OkR : Rule → Prop
  | .unit l _ => l.1 ∈ pool
  | .parts rs => 1 < rs.length ∧ rs.length ≤ 1000
  | .split n _ _ => n ∈ pool
  | _ => True
theorem lay_dI (n : Nat) : (dI n).canLay0 = true := rfl
theorem lay_dR {r : Rule} (h : OkR r) : (dR r).canLay0 = true := by
  cases r with
  | void => decide +kernel
  | free => decide +kernel
  | unit l i =>
    have h1 := lay_dL h
    have h2 : PyData.canLay0 (.str "unit") = true := by decide +kernel
    show PyData.canLayAll0 [_, _, _] = true
    simp only [PyData.canLayAll0, h1, h2, lay_dI, Bool.and_self]
  | parts rs =>
    have h1 : PyData.canLay0 (.tuple (rs.map dI)) = true := lay_map fun n _ => lay_dI n
    have h2 : PyData.canLay0 (.str "parts") = true := by decide +kernel
    show PyData.canLayAll0 [_, _] = true
    simp only [PyData.canLayAll0, h1, h2, Bool.and_self]
  | split n i j =>
    have h1 := pool_ok n h
    have h2 : PyData.canLay0 (.str "split") = true := by decide +kernel
    show PyData.canLayAll0 [_, _, _, _] = true
    simp only [PyData.canLayAll0, h1, h2, lay_dI, Bool.and_self]
theorem dp_dR (r : Rule) : (dR r).depth ≤ 2 := by
  cases r with
  | void => decide
  | free => decide
  | unit l i =>
    have h := dp_dL l
    have h2 : (dI i).depth = 0 := rfl
    have h3 : (PyData.str "unit").depth = 0 := rfl
    show PyData.depthAll [_, _, _] + 1 ≤ 2
    simp only [PyData.depthAll, h2, h3]
    omega
  | parts rs =>
    have h : (PyData.tuple (rs.map dI)).depth ≤ 1 := dp_map (n := 0) (fun _ => Nat.zero_le _) rs
    have h3 : (PyData.str "parts").depth = 0 := rfl
    show PyData.depthAll [_, _] + 1 ≤ 2
    simp only [PyData.depthAll, h3]
    omega
  | split n i j =>
    have h2 : (dI i).depth = 0 := rfl
    have h4 : (dI j).depth = 0 := rfl
    have h5 : (PyData.str n).depth = 0 := rfl
    have h3 : (PyData.str "split").depth = 0 := rfl
    show PyData.depthAll [_, _, _, _] + 1 ≤ 2
    simp only [PyData.depthAll, h2, h3, h4, h5]
    omega
theorem sh_dR {r : Rule} (h : OkR r) : SeqAt.shaped (dR r) = true := sh_of (lay_dR h) (dp_dR r) (by decide)
theorem sh_nil : SeqAt.shaped (.tuple []) = true := by decide +kernel
theorem sh_nilL : SeqAt.shaped (.list []) = true := by decide +kernel
theorem eqv_cons_nil (d : PyData) (ds : List PyData) : PyData.eqv (.tuple (d :: ds)) (.tuple []) = false := by
  simp [PyData.eqv, PyData.eqvAll]
section
variable {P : Program} {w : World} {K : PySem.W.Frag} {mg : Str → Option Value} {base : Heap} {f f1 f2 f3 f4 : Addr} {fd fd1 fd2 fd3 fd4 : FuncData}
def spIsRule (K : PySem.W.Frag) : Sp := fun vs H Q _ => ∃ (v : V) (r : Rule), vs = [v] ∧ Dp K H v (dR r) ∧ OkR r ∧ ∀ H', Same H H' → Q (.bl true) H'
abbrev nIsRule : List Str := ["thing", "word", "rest"]
theorem scIsRule : FnScope nIsRule ["thing"] (defScope sIsRule) := ⟨rfl, rfl, rfl, by decide +kernel, rfl, by decide +kernel, by decide +kernel⟩
theorem ok_is_rule (B : Blt mg) (G1 : FnOk P w K mg base CX0 2 f1 fd1 ["thing"] (spIsLiteral K)) (D1 : Df K mg "is_literal" sIsLiteral ["thing"] f1 fd1) (G2 : FnOk P w K mg base CX0 1 f2 fd2 ["thing"] spIsNumber) (D2 : Df K mg "is_number" sIsNumber ["thing"] f2 fd2)
    (G3 : FnOk P w K mg base CX0 1 f3 fd3 ["thing"] spIsWord) (D3 : Df K mg "is_word" sIsWord ["thing"] f3 fd3) (G4 : FnOk P w K mg base CX0 2 f4 fd4 ["things"] (spAreNumbers K)) (D4 : Df K mg "are_numbers" sAreNumbers ["things"] f4 fd4)
    (D : Df K mg "is_rule" sIsRule ["thing"] f fd) : FnOk P w K mg base CX0 3 f fd ["thing"] (spIsRule K) := by
  refine D.fn.ok scIsRule (fun vs H Q E h => ?_) (fun cdv A outer s H vs Q E hr h => ?_)
  · obtain ⟨v, r, rfl, _⟩ := h
    rfl
  · obtain ⟨v, r, rfl, hd, okr, k⟩ := h
    refine ⟨_, pss_cons (ps_if (PW.pt (pw_or (pt_not (pt_val (pe_callB call_isi (by rfl) B.isi (by decide +kernel) (pa_cons (pv 0) (pa_cons (pe_bltn (by rfl) B.tup (by decide +kernel) (v := .ty "tuple") rfl) pa_nil)))))
        (pw_or (pt_cmpR (op_eqD (hu0 hr (by decide))) (pv 0) (pe_tup pa_nil) (nomark _)) (pw_or1 (pt_not (pt_val (pe_callB call_isi (by rfl) B.isi (by decide +kernel) (pa_cons (pe_ix ix_tup (pv 0) pe_int (fun _ _ => rfl)) (pa_cons (pe_bltn (by rfl) B.str (by decide +kernel) (v := .ty "str") rfl) pa_nil))))))))) (pss_one (ps_ret pe_bl)) pss_nil)
      (pss_cons (ps_asg (pv 0) (pg_star1 (by rfl) (pgs_cons (pg_name (i := 1) scIsRule.nd rfl (Or.inl rfl)) (pgs_cons (pg_name (i := 2) scIsRule.nd rfl (Or.inl rfl)) pgs_nil))))
      (pss_cons (ps_if (pt_cmpR op_in_seq (pv 1) (pe_tup (pa_cons pe_str (pa_cons pe_str pa_nil))) (by rfl)) (pss_one (ps_ret (pe_cmpR (op_eqD (hu0 hr (by decide))) (pv 2) (pe_lst pa_nil) (nomark _)))) pss_nil)
      (pss_cons (ps_if (pt_cmpR op_eq (pv 1) pe_str (nomark _)) (pss_one (ps_ret (pe_and (pe_cmpR op_eq (pe_callB call_len_seq (by rfl) B.len PySem.boot_len (pa_cons (pv 2) pa_nil)) pe_int (nomark _))
          (pe_and (pe_call G1 hr rfl D1.mg D1.fn.kp D1.bd .nil pass0 (pa_cons (pe_ix ix_list (pv 2) pe_int (fun _ _ => rfl)) pa_nil))
          (pe_one (pe_call G2 (hr.mono (by decide)) rfl D2.mg D2.fn.kp D2.bd .nil pass0 (pa_cons (pe_ix ix_list (pv 2) pe_int (fun _ _ => rfl)) pa_nil))))))) pss_nil)
      (pss_cons (ps_if (pt_cmpR op_eq (pv 1) pe_str (nomark _)) (pss_one (ps_ret (pe_and (pe_cmpR op_eq (pe_callB call_len_seq (by rfl) B.len PySem.boot_len (pa_cons (pv 2) pa_nil)) pe_int (nomark _))
          (pe_and (pe_callB call_isi (by rfl) B.isi (by decide +kernel) (pa_cons (pe_ix ix_list (pv 2) pe_int (fun _ _ => rfl)) (pa_cons (pe_bltn (by rfl) B.tup (by decide +kernel) (v := .ty "tuple") rfl) pa_nil)))
          (pe_and (pe_cmpR op_gt (pe_callB call_len_seq (by rfl) B.len PySem.boot_len (pa_cons (pe_ix ix_list (pv 2) pe_int (fun _ _ => rfl)) pa_nil)) pe_int (nomark _))
          (pe_one (pe_call G4 hr rfl D4.mg D4.fn.kp D4.bd .nil pass0 (pa_cons (pe_ix ix_list (pv 2) pe_int (fun _ _ => rfl)) pa_nil)))))))) pss_nil)
      (pss_one (ps_ret (pe_and (pe_cmpR op_eq (pv 1) pe_str (nomark _)) (pe_and (pe_cmpR op_eq (pe_callB call_len_seq (by rfl) B.len PySem.boot_len (pa_cons (pv 2) pa_nil)) pe_int (nomark _))
          (pe_and (pe_call G3 (hr.mono (by decide)) rfl D3.mg D3.fn.kp D3.bd .nil pass0 (pa_cons (pe_ix ix_list (pv 2) pe_int (fun _ _ => rfl)) pa_nil))
          (pe_one (pe_call G4 hr rfl D4.mg D4.fn.kp D4.bd .nil pass0 (pa_cons (pe_slice sl_list (pv 2) (po_some pe_int) po_none) pa_nil)))))))))))), ?_⟩
    obtain ⟨a, xs, rfl, ha, hx⟩ := dp_rule hd
    have ne : ∃ d ds, dR r = .tuple (d :: ds) := by cases r <;> exact ⟨_, _, rfl⟩
    obtain ⟨d0, ds0, e0⟩ := ne
    refine ⟨_, rfl, _, _, .type "tuple", .type "tuple", true, rfl, .ty _, tyx_tup ha, kit_ty (by decide +kernel), true, rfl, iteF ?_⟩
    refine ⟨_, rfl, Nat.zero_le _, fun p hp => ?_⟩
    have s1 : Same H (upd H p (.tup [])) := same_upd hp
    refine ⟨_, _, dpSame s1 _ _ hd, dp_new hp .nil, sh_dR okr, sh_nil, _, rfl, ?_⟩
    rw [e0, eqv_cons_nil]
    refine iteF ?_
    have ha1 := seqT s1 ha
    refine ⟨_, rfl, a, _, 0, _, rfl, rfl, ha1, atI_nat (j := 0) rfl, _, _, .type "str", .type "str", true, rfl, .ty _, .base (.str _), kit_ty (by decide +kernel), true, rfl, iteF ?_⟩
    refine ⟨_, rfl, a, _, _, rfl, ha1, fun l hl => ⟨_, _, rfl, _, _, rfl, rfl, ?_⟩⟩
    have s2 := same_put (u := .lst xs) s1 hl
    have hl2 : (upd (upd H p (.tup [])) l (.lst xs)) l = some (.lst xs) := upd_same
    generalize upd (upd H p (.tup [])) l (.lst xs) = H2 at s2 hl2
    refine ⟨_, rfl, Nat.succ_le_succ (Nat.succ_le_succ (Nat.zero_le _)), fun p2 hp2 => ⟨p2, _, rfl, .inr (SqT.of upd_same), rfl, rfl, _, rfl, ?_⟩⟩
    have s3 := same_put (u := .tup [V.str "void", V.str "free"]) s2 hp2
    have hl3 := same_upd (u := .tup [V.str "void", V.str "free"]) hp2 _ _ hl2
    generalize upd H2 p2 (.tup [V.str "void", V.str "free"]) = H3 at s3 hl3
    have ev : PyData.eqv (.list []) (.list []) = true := by decide +kernel
    have hq : ∀ {q : Addr}, H3 q = none → Same H (upd H3 q (.lst [])) := fun hq => same_put s3 hq
    cases r with
    | void =>
      obtain rfl := hx
      refine ifT (by decide +kernel) ⟨_, rfl, Nat.zero_le _, fun q hq => ⟨_, _, .lst (SqL.of (same_upd hq _ _ hl3)) .nil, .lst (SqL.of upd_same) .nil, sh_nilL, sh_nilL, ?_⟩⟩
      rw [ev]
      exact k _ (same_put s3 hq)
    | free =>
      obtain rfl := hx
      refine ifT (by decide +kernel) ⟨_, rfl, Nat.zero_le _, fun q hq => ⟨_, _, .lst (SqL.of (same_upd hq _ _ hl3)) .nil, .lst (SqL.of upd_same) .nil, sh_nilL, sh_nilL, ?_⟩⟩
      rw [ev]
      exact k _ (same_put s3 hq)
    | unit t i =>
      obtain ⟨u, rfl, du⟩ := hx
      refine ifF rfl ⟨_, rfl, rfl, _, rfl, ifT rfl ?_⟩
      refine ⟨_, rfl, l, _, rfl, .inl (SqL.of hl3), rfl, _, rfl, ifT (decide_eq_true rfl) ?_⟩
      refine ⟨_, rfl, l, _, 0, _, rfl, rfl, SqL.of hl3, atI_nat (j := 0) rfl, _, t, rfl, dpSame s3 _ _ du, okr, fun H4 s4 => ⟨true, rfl, iteT ?_⟩⟩
      exact ⟨_, rfl, l, _, 1, _, rfl, rfl, SqL.of (s4 _ _ hl3), atI_nat (j := 1) rfl, _, rfl, k _ (s3.trans s4)⟩
    | parts rs =>
      obtain ⟨b, rfl, hb⟩ := hx
      refine ifF rfl ⟨_, rfl, rfl, _, rfl, ifF rfl ?_⟩
      refine ⟨_, rfl, rfl, _, rfl, ifT rfl ?_⟩
      refine ⟨_, rfl, l, _, rfl, .inl (SqL.of hl3), rfl, _, rfl, ifT (decide_eq_true rfl) ?_⟩
      refine ⟨_, rfl, l, _, 0, _, rfl, rfl, SqL.of hl3, atI_nat (j := 0) rfl, _, _, .type "tuple", .type "tuple", true, rfl, .ty _, tyx_tup (seqT s3 hb), kit_ty (by decide +kernel), true, rfl, iteT ?_⟩
      refine ⟨_, rfl, l, _, 0, _, rfl, rfl, SqL.of hl3, atI_nat (j := 0) rfl, b, _, rfl, .inr (seqT s3 hb), _, _, rfl, rfl, _, rfl, ifT (decide_eq_true (by rw [List.length_map]; have := okr.1; omega)) ?_⟩
      exact ⟨_, rfl, l, _, 0, _, rfl, rfl, SqL.of hl3, atI_nat (j := 0) rfl, b, rs, rfl, .inr (seqT s3 hb), okr.2, fun H4 s4 => k _ (s3.trans s4)⟩
    | split n i j =>
      obtain rfl := hx
      refine ifF rfl ⟨_, rfl, rfl, _, rfl, ifF rfl ?_⟩
      refine ⟨_, rfl, rfl, _, rfl, ifF rfl ?_⟩
      refine ⟨_, rfl, rfl, _, rfl, ifT rfl ?_⟩
      refine ⟨_, rfl, l, _, rfl, .inl (SqL.of hl3), rfl, _, rfl, ifT (decide_eq_true rfl) ?_⟩
      refine ⟨_, rfl, l, _, 0, _, rfl, rfl, SqL.of hl3, atI_nat (j := 0) rfl, n, rfl, okr, fun H4 s4 => ⟨true, rfl, iteT ?_⟩⟩
      refine ⟨_, rfl, 1, rfl, l, _, rfl, SqL.of (s4 _ _ hl3), fun q hq => ?_⟩
      rw [cut1]
      exact ⟨q, [i, j], rfl, .inl (SqL.of upd_same), by show 2 ≤ 1000; decide, fun H5 s5 => k _ ((same_put (s3.trans s4) hq).trans s5)⟩
/-! ### is_row -/
structure OkRow (r : Row) : Prop where
  wf : WfS r.cs
  len : r.cs.length ≤ 12
  rule : OkR r.rule
theorem OkRow.few {r : Row} (h : OkRow r) : Few r.cs := ⟨h.len, fun c hc => (h.wf.all c hc).len⟩
theorem lay_dRow {r : Row} (h : OkRow r) : (dRow r).canLay0 = true := by
  show PyData.canLayAll0 [_, _, _] = true
  simp only [PyData.canLayAll0, lay_dS h.wf.ok, lay_dI, lay_dR h.rule, Bool.and_self]
theorem dp_dRow (r : Row) : (dRow r).depth ≤ 4 := by
  have h := dp_dS r.cs
  have h2 := dp_dR r.rule
  have h3 : (dI r.cnt).depth = 0 := rfl
  show PyData.depthAll [_, _, _] + 1 ≤ 4
  simp only [PyData.depthAll, h3]
  omega
def spIsRow (K : PySem.W.Frag) (fk : Addr) : Sp := fun vs H Q _ => ∃ (v : V) (r : Row), vs = [v, .ref fk] ∧ Dp K H v (dRow r) ∧ OkRow r ∧ ∀ H', Same H H' → Q (.bl true) H'
abbrev nIsRow : List Str := ["thing", "is_known"]
theorem scIsRow : FnScope nIsRow ["thing", "is_known"] (defScope sIsRow) := ⟨rfl, rfl, rfl, by decide +kernel, rfl, by decide +kernel, by decide +kernel⟩
theorem ok_is_row (B : Blt mg) (G1 : FnOk P w K mg base CX0 4 f1 fd1 ["thing"] (spAreClauses K)) (D1 : Df K mg "are_clauses" sAreClauses ["thing"] f1 fd1) (G2 : FnOk P w K mg base CX0 1 f2 fd2 ["thing"] spIsNumber) (D2 : Df K mg "is_number" sIsNumber ["thing"] f2 fd2)
    (G3 : FnOk P w K mg base CX0 3 f3 fd3 ["thing"] (spIsRule K)) (D3 : Df K mg "is_rule" sIsRule ["thing"] f3 fd3)
    (D : Df K mg "is_row" sIsRow ["thing", "is_known"] f fd) : FnOk P w K mg base CX0 5 f fd ["thing", "is_known"] (spIsRow K f3) := by
  refine D.fn.ok scIsRow (fun vs H Q E h => ?_) (fun cdv A outer s H vs Q E hr h => ?_)
  · obtain ⟨v, r, rfl, _⟩ := h
    rfl
  · obtain ⟨v, r, rfl, hd, okr, k⟩ := h
    refine ⟨_, pss_cons (ps_if (PW.pt (pw_or (pt_not (pt_val (pe_callB call_isi (by rfl) B.isi (by decide +kernel) (pa_cons (pv 0) (pa_cons (pe_bltn (by rfl) B.tup (by decide +kernel) (v := .ty "tuple") rfl) pa_nil)))))
        (pw_or (pt_cmpR op_ne (pe_callB call_len_seq (by rfl) B.len PySem.boot_len (pa_cons (pv 0) pa_nil)) pe_int (nomark _)) (pw_or1 (pt_not (pt_val (pe_call G1 hr rfl D1.mg D1.fn.kp D1.bd .nil pass0 (pa_cons (pe_ix ix_tup (pv 0) pe_int (fun _ _ => rfl)) pa_nil)))))))) (pss_one (ps_ret pe_bl)) pss_nil)
      (pss_one (ps_ret (pe_and (pe_call G2 (hr.mono (by decide)) rfl D2.mg D2.fn.kp D2.bd .nil pass0 (pa_cons (pe_ix ix_tup (pv 0) pe_int (fun _ _ => rfl)) pa_nil))
        (pe_and (pe_cmpR op_ge (pe_ix ix_tup (pv 0) pe_int (fun _ _ => rfl)) pe_int (nomark _))
        (pe_one (pe_callL (i := 1) G3 (hr.mono (by decide)) rfl (Or.inl rfl) D3.fn.kp D3.bd .nil pass0 (pa_cons (pe_ix ix_tup (pv 0) pe_int (fun _ _ => rfl)) pa_nil))))))), ?_⟩
    obtain ⟨a, u, z, rfl, ha, du, dz⟩ := dp_row hd
    refine ⟨_, rfl, _, _, .type "tuple", .type "tuple", true, rfl, .ty _, tyx_tup ha, kit_ty (by decide +kernel), true, rfl, iteF ?_⟩
    refine ⟨_, rfl, a, _, rfl, .inr ha, rfl, _, rfl, ifF rfl ?_⟩
    refine ⟨_, rfl, a, _, 0, _, rfl, rfl, ha, atI_nat (j := 0) rfl, _, r.cs, rfl, du, okr.wf, okr.len, fun H1 s1 => ⟨true, rfl, iteF ?_⟩⟩
    have ha1 := seqT s1 ha
    refine ⟨_, rfl, a, _, 1, _, rfl, rfl, ha1, atI_nat (j := 1) rfl, _, rfl, true, rfl, iteT ?_⟩
    refine ⟨_, rfl, a, _, 1, _, rfl, rfl, ha1, atI_nat (j := 1) rfl, _, _, rfl, rfl, _, rfl, ifT (decide_eq_true (by omega)) ?_⟩
    exact ⟨rfl, _, rfl, a, _, 2, _, rfl, rfl, ha1, atI_nat (j := 2) rfl, _, r.rule, rfl, dpSame s1 _ _ dz, okr.rule, fun H2 s2 => k _ (s1.trans s2)⟩
/-! ### need_rows -/
def dT (rows : List Row) : PyData := .tuple (rows.map dRow)
theorem sh_dT {rows : List Row} (h : ∀ r ∈ rows, OkRow r) : SeqAt.shaped (dT rows) = true := sh_of (lay_map fun r hr => lay_dRow (h r hr)) (dp_map dp_dRow rows) (by decide)
def spNeedRows (K : PySem.W.Frag) (fk : Addr) : Sp := fun vs H Q _ => ∃ (v : V) (rows : List Row), vs = [v, .ref fk] ∧ Dp K H v (dT rows) ∧ (∀ r ∈ rows, OkRow r) ∧ rows ≠ [] ∧ rows.length ≤ 1000 ∧ ∀ H', Same H H' → Q .non H'
abbrev nNeedRows : List Str := ["thing", "is_known", "r", "row"]
theorem scNeedRows : FnScope nNeedRows ["thing", "is_known"] (defScope sNeedRows) := ⟨rfl, rfl, rfl, by decide +kernel, rfl, by decide +kernel, by decide +kernel⟩
theorem ok_need_rows (B : Blt mg) (G1 : FnOk P w K mg base CX0 1 f1 fd1 ["truth", "word", "at"] spNeed) (D1 : Df K mg "need" sNeed ["truth", "word", "at"] f1 fd1) (G2 : FnOk P w K mg base CX0 5 f2 fd2 ["thing", "is_known"] (spIsRow K f3)) (D2 : Df K mg "is_row" sIsRow ["thing", "is_known"] f2 fd2)
    (D : Df K mg "need_rows" sNeedRows ["thing", "is_known"] f fd) : FnOk P w K mg base CX0 6 f fd ["thing", "is_known"] (spNeedRows K f3) := by
  refine D.fn.ok scNeedRows (fun vs H Q E h => ?_) (fun cdv A outer s H vs Q E hr h => ?_)
  · obtain ⟨v, r, rfl, _⟩ := h
    rfl
  · obtain ⟨v, rows, rfl, hd, okr, ne, ln, k⟩ := h
    refine ⟨_, pss_cons (ps_expr (pe_call G1 (hr.mono (by decide)) rfl D1.mg D1.fn.kp D1.bd .nil pass0 (pa_cons (pe_and (pe_callB call_isi (by rfl) B.isi (by decide +kernel) (pa_cons (pv 0) (pa_cons (pe_bltn (by rfl) B.tup (by decide +kernel) (v := .ty "tuple") rfl) pa_nil)))
        (pe_one (pe_cmpR (op_neD (hu0 hr (by decide))) (pv 0) (pe_tup pa_nil) (nomark _)))) (pa_cons pe_str (pa_cons (pe_un un_neg pe_int) pa_nil)))))
      (pss_one (ps_for PassesOwn.never rfl (pi_enumT (by rfl) B.enu (pa_cons (pv 0) pa_nil)) (pg_tup rfl (pgs_cons (pg_name (i := 2) scNeedRows.nd rfl (Or.inl rfl)) (pgs_cons (pg_name (i := 3) scNeedRows.nd rfl (Or.inl rfl)) pgs_nil)))
        (pss_one (ps_expr (pe_call G1 (hr.mono (by decide)) rfl D1.mg D1.fn.kp D1.bd .nil pass0 (pa_cons (pe_call G2 hr rfl D2.mg D2.fn.kp D2.bd .nil pass0 (pa_cons (pv 3) (pa_cons (pv 1) pa_nil))) (pa_cons pe_str (pa_cons (pv 2) pa_nil)))))))), ?_⟩
    obtain ⟨a, xs, rfl, ha, dx⟩ := dp_tup hd
    have lx : xs.length = rows.length := by have := dpLen dx; simpa using this
    refine ⟨_, rfl, _, _, .type "tuple", .type "tuple", true, rfl, .ty _, tyx_tup ha, kit_ty (by decide +kernel), true, rfl, iteT ?_⟩
    refine ⟨_, rfl, Nat.zero_le _, fun p hp => ?_⟩
    have s1 : Same H (upd H p (.tup [])) := same_upd hp
    refine ⟨_, _, dpSame s1 _ _ hd, dp_new hp .nil, sh_dT okr, sh_nil, ?_⟩
    have e0 : PyData.eqv (dT rows) (.tuple []) = false := by
      cases rows with
      | nil => exact absurd rfl ne
      | cons r rs => exact eqv_cons_nil _ _
    rw [e0]
    refine ⟨_, rfl, _, _, rfl, ?_⟩
    refine ⟨_, rfl, a, _, rfl, seqT s1 ha, for_it walk_enumT (fun i σ H' => Same H H' ∧ ∃ x2 x3, σ = [some (.ref a), some (.ref f3), x2, x3]) ⟨s1, none, none, rfl⟩ (fun i σ H' _ h => seqT h.1 ha) ?_ ?_⟩
    · rintro i x _ H1 _ hi ⟨s2, x2, x3, rfl⟩ ⟨T, iv, rv, rfl, hT, rfl, hiv, hrv⟩
      obtain rfl := Option.some.inj hiv
      have s3 := same_put (u := .tup [.int (i : Nat), rv]) s2 hT
      obtain ⟨hir, dr⟩ := dp_at (enc := dRow) default (dpAllSame s3 _ _ dx) hrv
      refine ⟨T, _, rfl, SqT.of upd_same, rfl, _, _, rfl, _, _, rfl, rfl, ?_⟩
      refine ⟨_, rfl, _, rfl, rv, rowAt rows i, rfl, dr, okr _ (rowAt_mem hir), fun H3 s4 => ⟨_, rfl, _, _, rfl, s3.trans s4, _, _, rfl⟩⟩
    · rintro σ H1 ⟨s2, _⟩
      exact k H1 s2
end
end Wc
set_option maxRecDepth 100000
set_option maxHeartbeats 8000000
/-! W29: holds. -/
namespace Wc
open PySem PySem.Spec PyProof.Rows L2
open PySem.W (dataLt alike)
/-- what a rule tells of its clauses is so -/
def HoldsR (rows : List Row) (cs : Cs) : Rule → Prop
  | .void => [] ∈ cs
  | .free => cs = []
  | .unit l i => [l] ∈ cs ∧ (rowAt rows i).cs = putC cs l
  | .parts rs => rs.map (fun i => (rowAt rows i).cs) = groupsC cs
  | .split n i j => n ∈ namesOf cs ∧ (rowAt rows i).cs = putC cs (n, false) ∧ (rowAt rows j).cs = putC cs (n, true)
theorem fmap_some {α β : Type} (g : α → β) : ∀ xs : List α, xs.filterMap (fun x => some (g x)) = xs.map g
  | [] => rfl
  | x :: xs => by rw [List.filterMap_cons, List.map_cons, fmap_some g xs]
theorem lay_lmap {α : Type} {f : α → PyData} {xs : List α} (hf : ∀ a ∈ xs, (f a).canLay0 = true) : (PyData.list (xs.map f)).canLay0 = true := lay_map hf
theorem sh_maps {cs : List Cs} (h : ∀ c ∈ cs, OkS c) : SeqAt.shaped (.tuple (cs.map dS)) = true := sh_of (lay_map fun c hc => lay_dS (h c hc)) (dp_map dp_dS cs) (by decide)
theorem dp_lmap {α : Type} {f : α → PyData} {n : Nat} (hf : ∀ a, (f a).depth ≤ n) (xs : List α) : (PyData.list (xs.map f)).depth ≤ n + 1 := dp_map hf xs
theorem sh_lmaps {cs : List Cs} (h : ∀ c ∈ cs, OkS c) : SeqAt.shaped (.list (cs.map dS)) = true := sh_of (lay_lmap fun c hc => lay_dS (h c hc)) (dp_lmap dp_dS cs) (by decide)
section
variable {P : Program} {w : World} {K : PySem.W.Frag} {mg : Str → Option Value} {base : Heap} {f f1 f2 f3 f4 : Addr} {fd fd1 fd2 fd3 fd4 : FuncData}
def spHolds (K : PySem.W.Frag) : Sp := fun vs H Q _ => ∃ (a : Addr) (r : Nat) (rows : List Row), vs = [.ref a, .int (r : Nat)] ∧ Trail K H a rows ∧ r < rows.length ∧ (∀ q ∈ rows, OkRow q) ∧ (∀ i ∈ wanted (rowAt rows r).rule, i < rows.length) ∧ HoldsR rows (rowAt rows r).cs (rowAt rows r).rule ∧ ∀ H', Same H H' → Q (.bl true) H'
abbrev nHolds : List Str := ["trail", "r", "clauses", "count", "rule", "sides", "i", "truth"]
theorem scHolds : FnScope nHolds ["trail", "r"] (defScope sHolds) := ⟨rfl, rfl, rfl, by decide +kernel, rfl, by decide +kernel, by decide +kernel⟩
theorem ok_holds (B : Blt mg) (G1 : FnOk P w K mg base CX0 2 f1 fd1 ["clauses", "literal"] (spPut K)) (D1 : Df K mg "put" sPut ["clauses", "literal"] f1 fd1) (G2 : FnOk P w K mg base CX0 4 f2 fd2 ["clauses"] (spGroups K)) (D2 : Df K mg "groups" sGroups ["clauses"] f2 fd2)
    (G3 : FnOk P w K mg base CX0 1 f3 fd3 ["clauses"] (spNamesIn K)) (D3 : Df K mg "names_in" sNamesIn ["clauses"] f3 fd3)
    (D : Df K mg "holds" sHolds ["trail", "r"] f fd) : FnOk P w K mg base CX0 5 f fd ["trail", "r"] (spHolds K) := by
  refine D.fn.ok scHolds (fun vs H Q E h => ?_) (fun cdv A outer s H vs Q E hr h => ?_)
  · obtain ⟨a, r, rows, rfl, _⟩ := h
    rfl
  · obtain ⟨a, r, rows, rfl, tr, hr0, okr, hah, hh, k⟩ := h
    refine ⟨_, pss_cons (ps_asg (pe_ix ix_seq (pv 0) (pv 1) (fun _ _ => rfl)) (pg_tup rfl (pgs_cons (pg_name (i := 2) scHolds.nd rfl (Or.inr rfl)) (pgs_cons (pg_name (i := 3) scHolds.nd rfl (Or.inl rfl)) (pgs_cons (pg_name (i := 4) scHolds.nd rfl (Or.inr rfl)) pgs_nil)))))
      (pss_cons (ps_if (pt_cmpR op_eq (pe_ix ix_tup (pv 4) pe_int (fun _ _ => rfl)) pe_str (nomark _)) (pss_one (ps_ret (pe_cmpR (op_inT (hu0 hr (by decide))) (pe_tup pa_nil) (pv 2) (by rfl)))) pss_nil)
      (pss_cons (ps_if (pt_cmpR op_eq (pe_ix ix_tup (pv 4) pe_int (fun _ _ => rfl)) pe_str (nomark _)) (pss_one (ps_ret (pe_cmpR (op_eqD (hu0 hr (by decide))) (pv 2) (pe_tup pa_nil) (nomark _)))) pss_nil)
      (pss_cons (ps_if (pt_cmpR op_eq (pe_ix ix_tup (pv 4) pe_int (fun _ _ => rfl)) pe_str (nomark _)) (pss_one (ps_ret (pe_and (pe_cmpR (op_inT (hu0 hr (by decide))) (pe_tup (pa_cons (pe_ix ix_tup (pv 4) pe_int (fun _ _ => rfl)) pa_nil)) (pv 2) (by rfl))
          (pe_one (pe_cmpR (op_eqD (hu0 hr (by decide))) (pe_ix ix_tup (pe_ix ix_seq (pv 0) (pe_ix ix_tup (pv 4) pe_int (fun _ _ => rfl)) (fun _ _ => rfl)) pe_int (fun _ _ => rfl))
            (pe_call G1 (hr.mono (by decide)) rfl D1.mg D1.fn.kp D1.bd .nil pass0 (pa_cons (pv 2) (pa_cons (pe_ix ix_tup (pv 4) pe_int (fun _ _ => rfl)) pa_nil))) (nomark _)))))) pss_nil)
      (pss_cons (ps_if (pt_cmpR op_eq (pe_ix ix_tup (pv 4) pe_int (fun _ _ => rfl)) pe_str (nomark _)) (pss_one (ps_ret (pe_cmpR (op_eqD (hu0 hr (by decide)))
          (pe_callTy call_tuple_of (by rfl) B.tup (by decide +kernel) (pa_cons
            (pe_lc (own := [("i", 6)]) (g := gName 6) (tt := tYes) (te := tOp (rIxT K) (tOp (rIx K) (tVar 0) (tVar 6)) (tC (.int 0))) rfl scHolds.nd (pi_tup (pe_ix ix_tup (pv 4) pe_int (fun _ _ => rfl))) (blkOk_by (N := nHolds) (sc := defScope sHolds) (by decide +kernel))
              (fun _ _ _ _ _ => pg_name (i := 6) scHolds.nd rfl (Or.inl rfl)) (fun _ _ _ _ _ => pts_nil) (fun _ _ _ _ _ => pe_ix ix_tup (pe_ix ix_seq (pv 0) (pv 6) (fun _ _ => rfl)) pe_int (fun _ _ => rfl))) pa_nil))
          (pe_call G2 hr rfl D2.mg D2.fn.kp D2.bd .nil pass0 (pa_cons (pv 2) pa_nil)) (nomark _)))) pss_nil)
      (pss_cons (ps_setLc (i := 5) (own := [("truth", 7)]) (g := gName 7) (tt := tYes) (te := tCall (spPut K) [] E0 (tCons (tVar 2) (tCons (tTup (tCons (tOp (rIxT K) (tVar 4) (tC (.int 1))) (tCons (tVar 7) tNil))) tNil))) rfl scHolds.nd rfl rfl (sw_true rfl rfl rfl (by decide +kernel)) (pi_tup (pe_tup (pa_cons pe_bl (pa_cons pe_bl pa_nil))))
          (blkOk_by (N := nHolds) (sc := defScope sHolds) (by decide +kernel)) (fun _ _ _ _ _ => pg_name (i := 7) scHolds.nd rfl (Or.inl rfl)) (fun _ _ _ _ _ => pts_nil)
          (fun _ _ _ _ _ => pe_call G1 (hr.mono (by decide)) rfl D1.mg D1.fn.kp D1.bd .nil pass0 (pa_cons (pv 2) (pa_cons (pe_tup (pa_cons (pe_ix ix_tup (pv 4) pe_int (fun _ _ => rfl)) (pa_cons (pv 7) pa_nil))) pa_nil))))
      (pss_one (ps_ret (pe_and (pe_cmpR op_in_seq (pe_ix ix_tup (pv 4) pe_int (fun _ _ => rfl)) (pe_call G3 (hr.mono (by decide)) rfl D3.mg D3.fn.kp D3.bd .nil pass0 (pa_cons (pv 2) pa_nil)) (by rfl))
        (pe_one (pe_cmpR (op_eqD (hu0 hr (by decide)))
          (pe_lc (own := [("i", 6)]) (g := gName 6) (tt := tYes) (te := tOp (rIxT K) (tOp (rIx K) (tVar 0) (tVar 6)) (tC (.int 0))) rfl scHolds.nd (pi_tup (pe_slice sl_tupA (pv 4) (po_some pe_int) po_none)) (blkOk_by (N := nHolds) (sc := defScope sHolds) (by decide +kernel))
              (fun _ _ _ _ _ => pg_name (i := 6) scHolds.nd rfl (Or.inl rfl)) (fun _ _ _ _ _ => pts_nil) (fun _ _ _ _ _ => pe_ix ix_tup (pe_ix ix_seq (pv 0) (pv 6) (fun _ _ => rfl)) pe_int (fun _ _ => rfl)))
          (pv 5) (nomark _))))))))))), ?_⟩
    refine ⟨_, rfl, _, rfl, rix_at tr hr0 fun v dv => ?_⟩
    obtain ⟨ar, u, z, rfl, har, du, dz⟩ := dp_row dv
    have okw : OkRow (rowAt rows r) := okr _ (rowAt_mem hr0)
    have wf := okw.wf
    have few := okw.few
    have okru := okw.rule
    generalize (rowAt rows r).cs = cs at *
    generalize (rowAt rows r).rule = ru at *
    refine ⟨ar, _, rfl, har, rfl, _, _, rfl, _, _, rfl, _, _, rfl, rfl, ?_⟩
    obtain ⟨rr, xs, rfl, hrr, hx⟩ := dp_rule dz
    refine ⟨_, rfl, rr, _, 0, _, rfl, rfl, hrr, atI_nat (j := 0) rfl, rfl, _, rfl, ?_⟩
    cases ru with
    | void =>
      refine ifT rfl ⟨Nat.zero_le _, fun p hp => ⟨_, rfl, _, _, dp_new hp .nil, dpSame (same_upd hp) _ _ du, sh_nil, sh_dS wf.ok, ?_⟩⟩
      rw [show ((cs.map dC).any fun z => PyData.eqv z (.tuple [])) = true from (any_iff (x := ([] : Cl)) eqv_dC).mpr hh]
      exact k _ (same_upd hp)
    | free =>
      refine ifF rfl ⟨_, rfl, rr, _, 0, _, rfl, rfl, hrr, atI_nat (j := 0) rfl, rfl, _, rfl, ifT rfl ?_⟩
      have e : cs = [] := hh
      subst e
      refine ⟨_, rfl, Nat.zero_le _, fun p hp => ⟨_, _, dpSame (same_upd hp) _ _ du, dp_new hp .nil, sh_dS wf.ok, sh_nil, ?_⟩⟩
      rw [show PyData.eqv (dS []) (.tuple []) = true from by decide +kernel]
      exact k _ (same_upd hp)
    | unit l i =>
      obtain ⟨ul, rfl, dl⟩ := hx
      have hi : i < rows.length := hah i (by simp [wanted])
      refine ifF rfl ⟨_, rfl, rr, _, 0, _, rfl, rfl, hrr, atI_nat (j := 0) rfl, rfl, _, rfl, ifF rfl ?_⟩
      refine ⟨_, rfl, rr, _, 0, _, rfl, rfl, hrr, atI_nat (j := 0) rfl, rfl, _, rfl, ifT rfl ?_⟩
      have okl : l.1 ∈ pool := okru
      refine ⟨_, rfl, rr, _, 1, _, rfl, rfl, hrr, atI_nat (j := 1) rfl, Nat.succ_le_succ (Nat.zero_le _), fun p hp => ⟨_, rfl, _, _, dp_new (ds := [dL l]) hp (.cons dl .nil), dpSame (same_upd hp) _ _ du, sh_dC (c := [l]) (fun x hx => by simp at hx; rw [hx]; exact okl), sh_dS wf.ok, ?_⟩⟩
      rw [show ((cs.map dC).any fun z => PyData.eqv z (.tuple [dL l])) = true from (any_iff (x := ([l] : Cl)) eqv_dC).mpr hh.1]
      refine ⟨true, rfl, iteT ?_⟩
      have s1 : Same H (upd H p (.tup [ul])) := same_upd hp
      refine ⟨_, rfl, _, rfl, rr, _, 2, _, rfl, rfl, seqT s1 hrr, atI_nat (j := 2) rfl, rix_at (tr.same s1) hi fun v2 dv2 => ?_⟩
      obtain ⟨ai, ui, zi, rfl, hai, dui, dzi⟩ := dp_row dv2
      refine ⟨ai, _, 0, _, rfl, rfl, hai, atI_nat (j := 0) rfl, ?_⟩
      refine ⟨_, rfl, _, rfl, rr, _, 1, _, rfl, rfl, seqT s1 hrr, atI_nat (j := 1) rfl, ?_⟩
      refine ⟨_, _, cs, l, rfl, dpSame s1 _ _ du, dpSame s1 _ _ dl, wf.ok, okl, few, fun H2 y s2 dy => ?_⟩
      rw [hh.2] at dui
      have okp : OkS (putC cs l) := by rw [← hh.2]; exact (okr _ (rowAt_mem hi)).wf.ok
      refine ⟨_, _, dpSame s2 _ _ dui, dy, sh_dS okp, sh_dS okp, ?_⟩
      rw [SeqAt.eqv_refl _ (lay_dS okp)]
      exact k _ (s1.trans s2)
    | parts rs =>
      obtain ⟨b, rfl, hb⟩ := hx
      refine ifF rfl ⟨_, rfl, rr, _, 0, _, rfl, rfl, hrr, atI_nat (j := 0) rfl, rfl, _, rfl, ifF rfl ?_⟩
      refine ⟨_, rfl, rr, _, 0, _, rfl, rfl, hrr, atI_nat (j := 0) rfl, rfl, _, rfl, ifF rfl ?_⟩
      refine ⟨_, rfl, rr, _, 0, _, rfl, rfl, hrr, atI_nat (j := 0) rfl, rfl, _, rfl, ifT rfl ?_⟩
      refine ⟨_, rfl, rr, _, 1, _, rfl, rfl, hrr, atI_nat (j := 1) rfl, b, rfl, ⟨_, hb⟩, fun D' hD => lcW (K := K) (walk_tup (xs := rs.map fun n : Nat => V.int (n : Int))) hD (by rw [List.length_map]; have := okru.2; exact Nat.le_trans this (by decide)) (fun H' e => seqT e hb)
        (fun i => some (dS (rowAt rows (rs.getD i 0)).cs)) (fun i d _ e => by cases e; exact nl_dS _) ?_ ?_⟩
      · rintro i x _ H2 Rt Rf hi sm ⟨rfl, hx⟩ hT _
        rw [List.length_map] at hi
        rw [List.getElem?_map, at_ix hi] at hx
        obtain rfl := Option.some.inj hx
        have ei : rs.getD i 0 = rs[i] := by rw [List.getD_eq_getElem?_getD, at_ix hi]; rfl
        have hq : rs[i] < rows.length := hah _ (List.getElem_mem hi)
        refine ⟨rfl, tyes ⟨_, rfl, _, rfl, rix_at (tr.same sm) hq fun v2 dv2 => ?_⟩⟩
        obtain ⟨ai, ui, zi, rfl, hai, dui, dzi⟩ := dp_row dv2
        exact ⟨ai, _, 0, _, rfl, rfl, hai, atI_nat (j := 0) rfl, hT _ _ _ rfl (Same.refl _) (by rw [ei]; exact dui)⟩
      · intro H2 acc sm hD2 da
        rw [List.length_map, fmap_range rs (fun i => some (dS (rowAt rows i).cs)) 0, fmap_some] at da
        refine ⟨D', acc, rfl, .inl ⟨SqL.of hD2, fun p hp => ?_⟩⟩
        have s3 := same_put (u := .tup acc) sm hp
        refine ⟨_, rfl, _, cs, rfl, dpSame s3 _ _ du, wf.ok, few, fun H4 y s4 dy => ?_⟩
        have em : rs.map (fun i => dS (rowAt rows i).cs) = (groupsC cs).map dS := by
          have e0 : rs.map (fun i => (rowAt rows i).cs) = groupsC cs := hh
          rw [← e0, List.map_map]
          rfl
        rw [em] at da
        have okg : ∀ c ∈ groupsC cs, OkS c := fun c hc => by
          have e0 : rs.map (fun i => (rowAt rows i).cs) = groupsC cs := hh
          rw [← e0] at hc
          obtain ⟨i, hi, rfl⟩ := List.mem_map.mp hc
          exact (okr _ (rowAt_mem (hah i hi))).wf.ok
        refine ⟨_, _, dpSame s4 _ _ (dp_new hp da), dy, sh_maps okg, sh_maps okg, ?_⟩
        rw [SeqAt.eqv_refl _ (lay_map fun c hc => lay_dS (okg c hc))]
        exact k _ (s3.trans s4)
    | split n i j =>
      obtain rfl := hx
      have hi : i < rows.length := hah i (by simp [wanted])
      have hj : j < rows.length := hah j (by simp [wanted])
      have okn : n ∈ pool := okru
      refine ifF rfl ⟨_, rfl, rr, _, 0, _, rfl, rfl, hrr, atI_nat (j := 0) rfl, rfl, _, rfl, ifF rfl ?_⟩
      refine ⟨_, rfl, rr, _, 0, _, rfl, rfl, hrr, atI_nat (j := 0) rfl, rfl, _, rfl, ifF rfl ?_⟩
      refine ⟨_, rfl, rr, _, 0, _, rfl, rfl, hrr, atI_nat (j := 0) rfl, rfl, _, rfl, ifF rfl ?_⟩
      refine ⟨Nat.succ_le_succ (Nat.succ_le_succ (Nat.zero_le _)), fun p1 hp1 => ?_⟩
      have s1 : Same H (upd H p1 (.tup [.bl false, .bl true])) := same_upd hp1
      have t1 : SqT K (upd H p1 (.tup [.bl false, .bl true])) p1 [.bl false, .bl true] := SqT.of upd_same
      refine ⟨p1, rfl, ⟨_, t1⟩, fun D' hD => lcW (K := K) (walk_tup (xs := [.bl false, .bl true])) hD (by decide) (fun H' e => seqT e t1)
        (fun q => some (dS (putC cs (n, [false, true].getD q false)))) (fun i d _ e => by cases e; exact nl_dS _) ?_ ?_⟩
      · rintro q x _ H2 Rt Rf hq sm ⟨rfl, hx⟩ hT _
        obtain ⟨tr, rfl, et⟩ : ∃ tr : Bool, x = .bl tr ∧ [false, true].getD q false = tr := by
          match q, hq with
          | 0, _ => exact ⟨false, (Option.some.inj hx).symm, rfl⟩
          | 1, _ => exact ⟨true, (Option.some.inj hx).symm, rfl⟩
        have s2 := s1.trans sm
        refine ⟨rfl, tyes ⟨_, rfl, _, rfl, rr, _, 1, _, rfl, rfl, seqT s2 hrr, atI_nat (j := 1) rfl, _, rfl, Nat.succ_le_succ (Nat.succ_le_succ (Nat.zero_le _)), fun p3 hp3 => ?_⟩⟩
        refine ⟨_, _, cs, (n, tr), rfl, dpSame (same_put s2 hp3) _ _ du, dp_new (ds := [.str n, .bool tr]) hp3 (.cons (.str _) (.cons (.bl _) .nil)), wf.ok, okn, few, fun H4 y s4 dy => ?_⟩
        exact hT _ _ _ rfl (same_put (Same.refl _) hp3 |>.trans s4) (by rw [et]; exact dy)
      · intro H2 acc sm hD2 da
        have s2 := s1.trans sm
        refine ⟨_, rfl, rr, _, 1, _, rfl, rfl, seqT s2 hrr, atI_nat (j := 1) rfl, _, rfl, _, cs, rfl, dpSame s2 _ _ du, few, fun H3 y s3 dy => ?_⟩
        obtain ⟨an, rfl, han⟩ := dp_names dy
        refine ⟨an, _, rfl, .inr han, rfl, flat_strs _, ?_⟩
        have ei : (if false = true then !inV (V.str n) ((namesOf cs).map V.str) else inV (V.str n) ((namesOf cs).map V.str)) = true := by rw [if_neg Bool.false_ne_true, inV_strs]; exact decide_eq_true hh.1
        rw [ei]
        refine ⟨true, rfl, iteT ?_⟩
        have s4 := s2.trans s3
        have cutw : cutV [V.str "split", .str n, .int (i : Nat), .int (j : Nat)] (some 2) none = [V.int (i : Nat), V.int (j : Nat)] := rfl
        refine ⟨_, rfl, 2, rfl, rr, _, rfl, seqT s4 hrr, fun hw => absurd (show HT.sIx 4 0 (some 2) = 0 from hw.1) (by decide), fun _ p5 hp5 => ?_⟩
        have s5 := same_put (u := .tup [V.int (i : Nat), V.int (j : Nat)]) s4 hp5
        have t5 : SqT K (upd H3 p5 (.tup [V.int (i : Nat), V.int (j : Nat)])) p5 [V.int (i : Nat), V.int (j : Nat)] := SqT.of upd_same
        refine ⟨p5, rfl, ⟨_, t5⟩, fun D6 hD6 => lcW (K := K) (walk_tup (xs := [V.int (i : Nat), V.int (j : Nat)])) hD6 (by show 2 ≤ sizeLine; decide) (fun H' e => seqT e t5)
          (fun q => some (dS (rowAt rows ([i, j].getD q 0)).cs)) (fun i d _ e => by cases e; exact nl_dS _) ?_ ?_⟩
        · rintro q x _ H6 Rt Rf hq sm6 ⟨rfl, hx⟩ hT _
          obtain ⟨g, rfl, et, hg⟩ : ∃ g : Nat, x = .int (g : Nat) ∧ [i, j].getD q 0 = g ∧ g < rows.length := by
            match q, hq with
            | 0, _ => exact ⟨i, (Option.some.inj hx).symm, rfl, hi⟩
            | 1, _ => exact ⟨j, (Option.some.inj hx).symm, rfl, hj⟩
          refine ⟨rfl, tyes ⟨_, rfl, _, rfl, rix_at (tr.same (s5.trans sm6)) hg fun v2 dv2 => ?_⟩⟩
          obtain ⟨ai, ui, zi, rfl, hai, dui, dzi⟩ := dp_row dv2
          exact ⟨ai, _, 0, _, rfl, rfl, hai, atI_nat (j := 0) rfl, hT _ _ _ rfl (Same.refl _) (by rw [et]; exact dui)⟩
        · intro H6 acc6 sm6 hD6' da6
          have e6 : (List.range [V.int (i : Nat), V.int (j : Nat)].length).filterMap (fun q => some (dS (rowAt rows ([i, j].getD q 0)).cs)) = [putC cs (n, false), putC cs (n, true)].map dS := by
            rw [← hh.2.1, ← hh.2.2]; rfl
          have e7 : (List.range [V.bl false, V.bl true].length).filterMap (fun q => some (dS (putC cs (n, [false, true].getD q false)))) = [putC cs (n, false), putC cs (n, true)].map dS := rfl
          rw [e6] at da6
          rw [e7] at da
          have okp : ∀ c ∈ [putC cs (n, false), putC cs (n, true)], OkS c := fun c hc => by
            rw [← hh.2.1, ← hh.2.2] at hc
            simp at hc
            rcases hc with rfl | rfl
            · exact (okr _ (rowAt_mem hi)).wf.ok
            · exact (okr _ (rowAt_mem hj)).wf.ok
          have s36 : Same H2 H6 := s3.trans ((same_upd hp5).trans sm6)
          refine ⟨_, rfl, _, _, .lst (SqL.of hD6') da6, .lst (SqL.of (s36 _ _ hD2)) (dpAllSame s36 _ _ da), sh_lmaps okp, sh_lmaps okp, ?_⟩
          rw [SeqAt.eqv_refl _ (lay_lmap fun c hc => lay_dS (okp c hc))]
          exact k _ (s5.trans sm6)
end
end Wc
set_option maxRecDepth 100000
set_option maxHeartbeats 8000000
/-! W30: lets_trail. -/
namespace Wc
open PySem PySem.Spec PyProof.Rows L2
open PySem.W (dataLt alike)
def dF (ns : List Str) (cs : Cs) : PyData := .tuple [dN ns, dS cs]
/-- a trail as it should be -/
structure TrailOk (rows : List Row) : Prop where
  ok : ∀ q ∈ rows, OkRow q
  cnt : ∀ q ∈ rows, q.cnt < 2 ^ 63
  ahead : ∀ r, r < rows.length → ∀ i ∈ wanted (rowAt rows r).rule, i < r
  hold : ∀ r, r < rows.length → HoldsR rows (rowAt rows r).cs (rowAt rows r).rule
  eq : ∀ r, r < rows.length → (rowAt rows r).cnt = cntBy rows (rowAt rows r).cs (rowAt rows r).rule
  len : rows.length ≤ 1000
theorem OkR.short {r : Rule} (h : OkR r) : (wanted r).length ≤ 1000 := by
  cases r with
  | void => exact Nat.zero_le _
  | free => exact Nat.zero_le _
  | unit l i => show 1 ≤ 1000; decide
  | parts rs => exact h.2
  | split n i j => show 2 ≤ 1000; decide
theorem TrailOk.cb {rows : List Row} (h : TrailOk rows) {r : Nat} (hr : r < rows.length) : CbOk rows r :=
  ⟨hr, fun q hq => (h.ok q hq).few, h.cnt, fun i hi => Nat.lt_trans (h.ahead r hr i hi) hr, (h.ok _ (rowAt_mem hr)).rule.short⟩
theorem atI_end {xs : List V} (h : xs ≠ []) : atI xs (-1) = some (xs.getD (xs.length - 1) .non) := by
  obtain ⟨ys, y, rfl⟩ : ∃ ys y, xs = ys ++ [y] := ⟨xs.dropLast, xs.getLast h, (List.dropLast_concat_getLast h).symm⟩
  rw [atI_last]
  simp [List.getD_eq_getElem?_getD]
section
variable {P : Program} {w : World} {K : PySem.W.Frag} {mg : Str → Option Value} {base : Heap} {f f1 f2 f3 f4 f5 f6 f7 : Addr} {fd fd1 fd2 fd3 fd4 fd5 fd6 fd7 : FuncData}
theorem dp_form {H : Hp} {v : V} {ns : List Str} {cs : Cs} (h : Dp K H v (dF ns cs)) : ∃ (a : Addr) (u z : V), v = .ref a ∧ SqT K H a [u, z] ∧ Dp K H u (dN ns) ∧ Dp K H z (dS cs) := by
  obtain ⟨a, xs, rfl, ha, dx⟩ := dp_tup h
  cases dx with | cons d1 dx => cases dx with | cons d2 dx => cases dx; exact ⟨a, _, _, rfl, ha, d1, d2⟩
def spLetsTrail (K : PySem.W.Frag) : Sp := fun vs H Q _ => ∃ (v u : V) (ns : List Str) (cs : Cs) (rows : List Row), vs = [v, u] ∧ Dp K H v (dF ns cs) ∧ Dp K H u (dT rows) ∧ TrailOk rows ∧ rows ≠ [] ∧ (rowAt rows (rows.length - 1)).cs = cs ∧ ns.length ≤ 1000 ∧ ∀ H', Same H H' → Q (.int ((rowAt rows (rows.length - 1)).cnt * 2 ^ shownW ns cs : Nat)) H'
abbrev nLets : List Str := ["form", "thing", "r", "clauses", "count", "rule", "i"]
theorem scLets : FnScope nLets ["form", "thing"] (defScope sLetsTrail) := ⟨rfl, rfl, rfl, by decide +kernel, rfl, by decide +kernel, by decide +kernel⟩
theorem ok_lets_trail (B : Blt mg) (G1 : FnOk P w K mg base CX0 6 f1 fd1 ["thing", "is_known"] (spNeedRows K f2)) (D1 : Df K mg "need_rows" sNeedRows ["thing", "is_known"] f1 fd1) (D2 : Df K mg "is_rule" sIsRule ["thing"] f2 fd2)
    (G3 : FnOk P w K mg base CX0 1 f3 fd3 ["truth", "word", "at"] spNeed) (D3 : Df K mg "need" sNeed ["truth", "word", "at"] f3 fd3) (G4 : FnOk P w K mg base CX0 1 f4 fd4 ["rule"] (spRowsWanted K)) (D4 : Df K mg "rows_wanted" sRowsWanted ["rule"] f4 fd4)
    (G5 : FnOk P w K mg base CX0 5 f5 fd5 ["trail", "r"] (spHolds K)) (D5 : Df K mg "holds" sHolds ["trail", "r"] f5 fd5) (G6 : FnOk P w K mg base CX0 3 f6 fd6 ["trail", "r", "shown"] (spCountBy K)) (D6 : Df K mg "count_by" sCountBy ["trail", "r", "shown"] f6 fd6)
    (G7 : FnOk P w K mg base CX0 2 f7 fd7 ["names", "clauses", "count"] (spShownBy K)) (D7 : Df K mg "shown_by" sShownBy ["names", "clauses", "count"] f7 fd7)
    (D : Df K mg "lets_trail" sLetsTrail ["form", "thing"] f fd) : FnOk P w K mg base CX0 7 f fd ["form", "thing"] (spLetsTrail K) := by
  refine D.fn.ok scLets (fun vs H Q E h => ?_) (fun cdv A outer s H vs Q E hr h => ?_)
  · obtain ⟨v, u, ns, cs, rows, rfl, _⟩ := h
    rfl
  · obtain ⟨v, u, ns, cs, rows, rfl, hf, ht, ok, ne, hcs, ln, k⟩ := h
    refine ⟨_, pss_cons (ps_expr (pe_call G1 hr rfl D1.mg D1.fn.kp D1.bd .nil pass0 (pa_cons (pv 1) (pa_cons (pe_glob (v := .ref f2) rfl D2.mg rfl) pa_nil))))
      (pss_cons (ps_for PassesOwn.never rfl (pi_enumT (by rfl) B.enu (pa_cons (pv 1) pa_nil)) (pg_tup rfl (pgs_cons (pg_name (i := 2) scLets.nd rfl (Or.inr rfl)) (pgs_cons (pg_tup rfl (pgs_cons (pg_name (i := 3) scLets.nd rfl (Or.inl rfl)) (pgs_cons (pg_name (i := 4) scLets.nd rfl (Or.inl rfl)) (pgs_cons (pg_name (i := 5) scLets.nd rfl (Or.inl rfl)) pgs_nil)))) pgs_nil)))
        (pss_cons (ps_expr (pe_call G3 (hr.mono (by decide)) rfl D3.mg D3.fn.kp D3.bd .nil pass0 (pa_cons (pe_callB (cr_all rfl) (by rfl) B.all (by decide +kernel) (pa_cons
            (pe_lc (own := [("i", 6)]) (g := gName 6) (tt := tYes) (te := tChain (rI0 fun i j => .bl (decide (i ≤ j))) (rI0 fun i j => .bl (decide (i < j))) (tC (.int 0)) (tVar 6) (tVar 2)) rfl scLets.nd (pi_tup (pe_call G4 (hr.mono (by decide)) rfl D4.mg D4.fn.kp D4.bd .nil pass0 (pa_cons (pv 5) pa_nil))) (blkOk_by (N := nLets) (sc := defScope sLetsTrail) (by decide +kernel))
              (fun _ _ _ _ _ => pg_name (i := 6) scLets.nd rfl (Or.inl rfl)) (fun _ _ _ _ _ => pts_nil) (fun _ _ _ _ _ => pe_chain op_le op_lt pe_int (pv 6) (pv 2))) pa_nil)) (pa_cons pe_str (pa_cons (pv 2) pa_nil)))))
        (pss_cons (ps_expr (pe_call G3 (hr.mono (by decide)) rfl D3.mg D3.fn.kp D3.bd .nil pass0 (pa_cons (pe_call G5 (hr.mono (by decide)) rfl D5.mg D5.fn.kp D5.bd .nil pass0 (pa_cons (pv 1) (pa_cons (pv 2) pa_nil))) (pa_cons pe_str (pa_cons (pv 2) pa_nil)))))
        (pss_one (ps_expr (pe_call G3 (hr.mono (by decide)) rfl D3.mg D3.fn.kp D3.bd .nil pass0 (pa_cons (pe_cmpR op_eq (pv 4) (pe_call G6 (hr.mono (by decide)) rfl D6.mg D6.fn.kp D6.bd .nil pass0 (pa_cons (pv 1) (pa_cons (pv 2) (pa_cons pe_non pa_nil)))) (nomark _)) (pa_cons pe_str (pa_cons (pv 2) pa_nil)))))))))
      (pss_cons (ps_expr (pe_call G3 (hr.mono (by decide)) rfl D3.mg D3.fn.kp D3.bd .nil pass0 (pa_cons (pe_cmpR (op_eqD (hu0 hr (by decide))) (pe_ix ix_tup (pe_ix ix_tup (pv 1) (pe_un un_neg pe_int) (fun _ _ => rfl)) pe_int (fun _ _ => rfl)) (pe_ix ix_tup (pv 0) pe_int (fun _ _ => rfl)) (nomark _)) (pa_cons pe_str (pa_cons (pe_un un_neg pe_int) pa_nil)))))
      (pss_one (ps_ret (pe_call G7 (hr.mono (by decide)) rfl D7.mg D7.fn.kp D7.bd .nil pass0 (pa_cons (pe_ix ix_tup (pv 0) pe_int (fun _ _ => rfl)) (pa_cons (pe_ix ix_tup (pv 0) pe_int (fun _ _ => rfl)) (pa_cons (pe_ix ix_tup (pe_ix ix_tup (pv 1) (pe_un un_neg pe_int) (fun _ _ => rfl)) pe_int (fun _ _ => rfl)) pa_nil)))))))), ?_⟩
    obtain ⟨af, nv, cv, rfl, haf, d1, d2⟩ := dp_form hf
    obtain ⟨at', ys, rfl, hat, dy⟩ := dp_tup ht
    have lys : ys.length = rows.length := by have := dpLen dy; simpa using this
    have rpos : 0 < rows.length := List.length_pos_iff.mpr ne
    refine ⟨_, rfl, _, rows, rfl, ht, ok.ok, ne, ok.len, fun H1 s1 => ?_⟩
    refine ⟨_, rfl, at', _, rfl, seqT s1 hat, for_it walk_enumT (fun i σ H' => Same H H' ∧ ∃ x2 x3 x4 x5, σ = [some (.ref af), some (.ref at'), x2, x3, x4, x5, none]) ⟨s1, none, none, none, none, rfl⟩ (fun i σ H' _ h => seqT h.1 hat) ?_ ?_⟩
    · rintro r x _ H2 _ hi ⟨s2, x2, x3, x4, x5, rfl⟩ ⟨T, iv, rv, rfl, hT, rfl, hiv, hrv⟩
      obtain rfl := Option.some.inj hiv
      have s3 := same_put (u := .tup [.int (r : Nat), rv]) s2 hT
      obtain ⟨hr0, dr⟩ := dp_at (enc := dRow) default (dpAllSame s3 _ _ dy) hrv
      obtain ⟨ar, u, z, rfl, har, du, dz⟩ := dp_row dr
      have tr : Trail K H at' rows := ⟨ys, .inr hat, dy⟩
      refine ⟨T, _, rfl, SqT.of upd_same, rfl, _, _, rfl, _, _, rfl, ⟨ar, _, rfl, har, rfl, _, _, rfl, _, _, rfl, _, _, rfl, rfl, ?_⟩⟩
      have hah := ok.ahead r hr0
      have hsh := (ok.ok _ (rowAt_mem hr0)).rule.short
      refine ⟨rfl, ?_⟩
      refine ⟨_, rfl, _, _, rfl, dz, fun H3 a3 s4 h3 => ⟨a3, rfl, ⟨_, h3⟩, fun D' hD => lcW (K := K) (walk_tup (xs := (wanted (rowAt rows r).rule).map fun n : Nat => V.int (n : Int))) hD (by rw [List.length_map]; exact Nat.le_trans hsh (by decide)) (fun H' e => seqT e h3) (fun _ => some (.bool true)) (fun i d _ e => by cases e; rfl) ?_ ?_⟩⟩
      · rintro i x _ H4 Rt Rf hi sm ⟨rfl, hx⟩ hT _
        rw [List.length_map] at hi
        rw [List.getElem?_map, at_ix hi] at hx
        obtain rfl := Option.some.inj hx
        have hlt := hah _ (List.getElem_mem hi)
        refine ⟨rfl, tyes ⟨_, rfl, _, _, rfl, rfl, _, rfl, ifT (decide_eq_true (by omega)) ⟨_, rfl, _, _, rfl, rfl, ?_⟩⟩⟩
        show Rt (.bl (decide (((wanted (rowAt rows r).rule)[i] : Nat) < (r : Int)))) H4
        rw [decide_eq_true (show (((wanted (rowAt rows r).rule)[i] : Nat) : Int) < (r : Int) from by omega)]
        exact hT _ _ _ rfl (Same.refl _) (.bl _)
      · intro H4 acc sm hD' da
        have e := all_true da
        subst e
        refine ⟨D', _, rfl, SqL.of hD', ?_⟩
        rw [all_rep]
        have s05 := (s3.trans s4).trans sm
        refine ⟨_, rfl, _, _, rfl, ?_⟩
        refine ⟨_, rfl, _, rfl, at', r, rows, rfl, tr.same s05, hr0, ok.ok, fun i hi => Nat.lt_trans (hah i hi) hr0, ok.hold r hr0, fun H5 s6 => ?_⟩
        refine ⟨_, rfl, _, _, rfl, ?_⟩
        have s06 := s05.trans s6
        refine ⟨_, rfl, _, rfl, _, rfl, at', r, rows, rfl, tr.same s06, ok.cb hr0, fun H6 s7 => ?_⟩
        rw [← ok.eq r hr0]
        refine ⟨rfl, ?_⟩
        have e9 : decide (V.int ((rowAt rows r).cnt : Nat) = V.int ((rowAt rows r).cnt : Nat)) = true := decide_eq_true rfl
        refine ⟨_, rfl, _, _, by rw [show rows.getD r default = rowAt rows r from rfl, e9]; rfl, ?_⟩
        exact ⟨s06.trans s7, _, _, _, _, rfl⟩
    · rintro σ H2 ⟨s2, x2, x3, x4, x5, rfl⟩
      have hy : ys.getD (ys.length - 1) .non = ys[ys.length - 1] := by rw [List.getD_eq_getElem?_getD, at_ix (by omega)]; rfl
      have hyn : ys ≠ [] := fun e => by rw [e] at lys; simp at lys; omega
      obtain ⟨_, dl⟩ := dp_at (enc := dRow) (i := ys.length - 1) default (dpAllSame s2 _ _ dy) (at_ix (by omega))
      have el : (rows.getD (ys.length - 1) default) = rowAt rows (rows.length - 1) := by rw [lys]; rfl
      rw [el] at dl
      obtain ⟨ar, u, z, hz, har, du, dz⟩ := dp_row dl
      have hlast : atI ys (-1) = some (V.ref ar) := by rw [atI_end hyn, hy, hz]
      have oke := (ok.ok _ (rowAt_mem (show rows.length - 1 < rows.length by omega)))
      have okc : OkS cs := by rw [← hcs]; exact oke.wf.ok
      rw [hcs] at du
      have fin : ∀ {H4 : Hp} {Q2 : VK}, Same H H4 → (∀ (v : V), v = V.ref ar → Q2 v H4) → rIxT K (.ref at') (.int (-1)) H4 Q2 := fun s4 q => ⟨at', _, _, _, rfl, rfl, seqT s4 hat, hlast, q _ rfl⟩
      refine ⟨_, rfl, _, rfl, fin s2 fun _ e => ?_⟩
      subst e
      refine ⟨ar, _, 0, _, rfl, rfl, har, atI_nat (j := 0) rfl, _, rfl, af, _, 1, _, rfl, rfl, seqT s2 haf, atI_nat (j := 1) rfl, ?_⟩
      refine ⟨_, _, du, dpSame s2 _ _ d2, sh_dS okc, sh_dS okc, ?_⟩
      rw [SeqAt.eqv_refl _ (lay_dS okc)]
      refine ⟨1, rfl, _, _, rfl, ?_⟩
      refine ⟨_, rfl, af, _, 0, _, rfl, rfl, seqT s2 haf, atI_nat (j := 0) rfl, _, rfl, af, _, 1, _, rfl, rfl, seqT s2 haf, atI_nat (j := 1) rfl, _, rfl, _, rfl, fin s2 fun _ e => ?_⟩
      subst e
      refine ⟨ar, _, 1, _, rfl, rfl, har, atI_nat (j := 1) rfl, _, _, ns, cs, _, rfl, dpSame s2 _ _ d1, dpSame s2 _ _ d2, ?_, ln, ok.cnt _ (rowAt_mem (by omega)), fun H3 s3 => k _ (s2.trans s3)⟩
      rw [← hcs]
      exact oke.few
end
end Wc
set_option maxRecDepth 100000
set_option maxHeartbeats 8000000
/-! W31: least_unit. -/
namespace Wc
open PySem PySem.Spec PyProof.Rows L2
open PySem.W (dataLt alike)
/-- the literals that are clauses alone -/
def units (cs : Cs) : List Lit := (cs.filter fun c => decide (c.length = 1)).map fun c => c.headD ("", false)
def leastU (cs : Cs) : Option Lit := (srtE dL (units cs)).head?
theorem leastU_nil {cs : Cs} (h : units cs = []) : leastU cs = none := by
  unfold leastU srtE
  rw [h, List.mergeSort_nil]
  rfl
theorem leastU_of {cs : Cs} {x : Lit} (hx : x ∈ units cs) (h : ∀ y ∈ units cs, dataLt (dL y) (dL x) = false) : leastU cs = some x := by
  unfold leastU
  have hm : x ∈ srtE dL (units cs) := srtE_mem.mpr hx
  have hp := srtE_pair (f := dL) (units cs)
  cases e : srtE dL (units cs) with
  | nil => rw [e] at hm; cases hm
  | cons y ys =>
    rw [e] at hm hp
    have hy : y ∈ units cs := srtE_mem.mp (by rw [e]; exact List.mem_cons_self)
    rcases List.mem_cons.mp hm with h1 | h1
    · rw [h1]; rfl
    · rw [ordL.eq (h y hy) ((List.pairwise_cons.mp hp).1 x h1)]; rfl
theorem leastU_mem {cs : Cs} {l : Lit} (h : leastU cs = some l) : l ∈ units cs := by
  unfold leastU at h
  exact srtE_mem.mp (List.mem_of_head? h)
theorem units_mem {cs : Cs} {l : Lit} (h : l ∈ units cs) : [l] ∈ cs := by
  unfold units at h
  obtain ⟨c, hc, rfl⟩ := List.mem_map.mp h
  obtain ⟨h1, h2⟩ := List.mem_filter.mp hc
  have h3 : c.length = 1 := of_decide_eq_true h2
  match c, h3 with
  | [l], _ => exact h1
theorem keysOk_dL (us : List Lit) (n : Nat) : KeysOk n (fun i => dL (us.getD i ("", false))) := fun i j _ _ => ⟨al_dL _ _, by simp [dL], Nat.le_trans (dp_dL _) (by decide)⟩
section
variable {P : Program} {w : World} {K : PySem.W.Frag} {mg : Str → Option Value} {base : Heap} {f f1 : Addr} {fd fd1 : FuncData}
def rLenQ (K : PySem.W.Frag) : List V → Hp → VK → Prop := fun xs H Q => ∃ p ys, xs = [.ref p] ∧ (SqL K H p ys ∨ SqT K H p ys) ∧ Q (.int ys.length) H
def spLeastUnit (K : PySem.W.Frag) : Sp := fun vs H Q _ => ∃ (v : V) (cs : Cs), vs = [v] ∧ Dp K H v (dS cs) ∧ Few cs ∧ ∀ H' y, Same H H' → (match leastU cs with | none => y = .non | some l => Dp K H' y (dL l)) → Q y H'
abbrev nUnit : List Str := ["clauses", "clause"]
theorem scUnit : FnScope nUnit ["clauses"] (defScope sLeastUnit) := ⟨rfl, rfl, rfl, by decide +kernel, rfl, by decide +kernel, by decide +kernel⟩
theorem ok_least_unit (B : Blt mg) (D : Df K mg "least_unit" sLeastUnit ["clauses"] f fd) : FnOk P w K mg base CX0 1 f fd ["clauses"] (spLeastUnit K) := by
  refine D.fn.ok scUnit (fun vs H Q E h => ?_) (fun cdv A outer s H vs Q E hr h => ?_)
  · obtain ⟨v, cs, rfl, _⟩ := h
    rfl
  · obtain ⟨v, cs, rfl, hd, few, k⟩ := h
    obtain ⟨a, xs, rfl, ha, dx⟩ := dp_tup hd
    have lx : xs.length = cs.length := by have := dpLen dx; simpa using this
    refine ⟨_, pss_one (ps_ret (pe_callBK (cr_minDef rfl (hu0 hr (by decide))) (by rfl) B.min (by decide +kernel) (pa_cons
      (pe_lc (own := [("clause", 1)]) (g := gName 1) (tt := tTest (tOp rEq (tCB (rLenQ K) (tCons (tVar 1) tNil)) (tC (.int 1)))) (te := tOp (rIxT K) (tVar 1) (tC (.int 0))) rfl scUnit.nd (pi_tup (pv 0)) (blkOk_by (N := nUnit) (sc := defScope sLeastUnit) (by decide +kernel))
        (fun _ _ _ _ _ => pg_name (i := 1) scUnit.nd rfl (Or.inl rfl)) (fun _ _ _ _ _ => pts_one (pt_cmpR op_eq (pe_callB call_len_seq (by rfl) B.len PySem.boot_len (pa_cons (pv 1) pa_nil)) pe_int (nomark _))) (fun _ _ _ _ _ => pe_ix ix_tup (pv 1) pe_int (fun _ _ => rfl))) pa_nil) (pk_cons pe_non pk_nil))), ?_⟩
    refine ⟨_, rfl, a, rfl, ⟨_, ha⟩, fun D' hD => lcW (K := K) (walk_tup (xs := xs)) hD (by rw [lx]; have := few.1; exact Nat.le_trans this (by decide)) (fun H' e => seqT e ha)
      (fun i => if (cs.getD i []).length = 1 then some (dL ((cs.getD i []).headD ("", false))) else none) (fun i d _ e => by split at e <;> cases e; exact nl_dL _) ?_ ?_⟩
    · rintro i x _ H2 Rt Rf hi sm ⟨rfl, hx⟩ hT hF
      obtain ⟨hic, dxi⟩ := dp_at (enc := dC) [] (dpAllSame sm _ _ dx) hx
      obtain ⟨b, zs, rfl, hb, dz⟩ := dp_tup dxi
      have lz : zs.length = (cs.getD i []).length := by have := dpLen dz; simpa using this
      refine ⟨rfl, ⟨_, rfl, b, zs, rfl, .inr hb, rfl, _, rfl, ?_⟩⟩
      by_cases c1 : (cs.getD i []).length = 1
      · refine ifT (decide_eq_true (by rw [lz, c1]; rfl)) ⟨_, rfl, b, zs, 0, zs[0]'(by omega), rfl, rfl, hb, atI_nat (j := 0) (at_ix (by omega)), ?_⟩
        obtain ⟨_, d0⟩ := dp_at (enc := dL) (i := 0) ("", false) dz (at_ix (by omega))
        refine hT _ _ _ (if_pos c1) (Same.refl _) ?_
        have e0 : (cs.getD i []).headD ("", false) = (cs.getD i []).getD 0 ("", false) := by cases cs.getD i [] <;> rfl
        rw [e0]
        exact d0
      · refine ifF (decide_eq_false fun e => c1 ?_) (hF _ (if_neg c1) (Same.refl _))
        rw [← lz]
        have : ((zs.length : Nat) : Int) = 1 := by injection e
        omega
    · intro H2 acc sm hD2 da
      rw [lx, fmap_range cs (fun c => if c.length = 1 then some (dL (c.headD ("", false))) else none) [], fmap_yes (fun c : Cl => c.length = 1) (fun c => dL (c.headD ("", false)))] at da
      have eu : (cs.filter fun c => decide (c.length = 1)).map (fun c => dL (c.headD ("", false))) = (units cs).map dL := by
        unfold units
        rw [List.map_map]
        rfl
      rw [eu] at da
      have la := dpLen da
      rw [List.length_map] at la
      refine ⟨D', .non, acc, fun i => dL ((units cs).getD i ("", false)), rfl, rfl, .inl (SqL.of hD2), keysOk_dL _ _, fun i x hx => (dp_at (enc := dL) ("", false) da hx).2, fun e => ?_, fun i x hx hm H' s1 => ?_⟩
      · have e' : units cs = [] := List.length_eq_zero_iff.mp (by rw [← la, e]; rfl)
        refine k _ _ sm ?_
        rw [leastU_nil e']
      · obtain ⟨hi, d⟩ := dp_at (enc := dL) ("", false) da hx
        refine k _ _ (sm.trans s1) ?_
        rw [leastU_of (mem_getD (α := Lit) ("", false) hi) (fun y hy => ?_)]
        · exact dpSame s1 _ _ d
        · obtain ⟨j, hj⟩ := List.mem_iff_getElem?.mp hy
          have := hm j (by rw [la]; exact (List.getElem?_eq_some_iff.mp hj).1)
          have ej : (units cs).getD j ("", false) = y := by rw [List.getD_eq_getElem?_getD, hj]; rfl
          rw [← ej]
          exact this
end
end Wc
set_option maxRecDepth 100000
set_option maxHeartbeats 8000000
/-! W32: most_common. -/
namespace Wc
open PySem PySem.Spec PyProof.Rows L2
open PySem.W (dataLt alike)
/-- a def of the module, with its code object -/
structure FunC (K : PySem.W.Frag) (x qual : Str) (st : Stmt) (f : Addr) (fd : FuncData) (c : Addr) : Prop where
  ex : ∃ (oc : Value) (od : Option Addr) (kV doc pm : Value) (an : Option Addr) (ct : Value) (osl : Array (Option Value)),
    fd = PySem.W.fnOf x qual (defArgs st) (defBody st) (defScope st) .none kV doc pm an (.ref c) ct ∧ K.lookup f = some ⟨oc, od, .func fd, osl⟩ ∧ PySem.W.codeIn K (.ref c) qual = true
section
variable {P : Program} {w : World} {K : PySem.W.Frag} {mg : Str → Option Value} {base : Heap} {f f1 : Addr} {fd fd1 : FuncData}
theorem FunC.ok {x qual : Str} {st : Stmt} {f c : Addr} {fd : FuncData} {N ps : List Str} {k : Nat} {sp : Sp} (F : FunC K x qual st f fd c) (S : FnScope N ps (defScope st)) (len : ∀ vs H Q E, sp vs H Q E → vs.length = ps.length)
    (hbody : ∀ (A : Around) (outer : List Env) (s : Shared) (H : Hp) (vs : List V) (Q : VK) (E : XK), Room k (A.deeper (envOfC qual (defScope st) s.heap.objs.size f (.ref c))) → sp vs H Q E →
      ∃ t, PSs (cxOf CX0 P w K mg base N qual (defScope st) f (.ref c) A outer s H E).nox (defBody st) t ∧ t { nx := fun _ H' => Q .non H', rt := Q } (start N vs) H) : FnOk P w K mg base CX0 (k + 1) f fd ps sp := by
  obtain ⟨oc, od, kV, doc, pm, an, ct, osl, rfl, lk, hcd⟩ := F.ex
  refine fn_of lk hcd S len fun A outer s H vs Q E hr hsp => ?_
  obtain ⟨t, h, q⟩ := hbody A outer s H vs Q E hr hsp
  exact ⟨t, h.nox, q⟩
/-! ### what stays but for the tables -/
theorem seqL_ext {H H' : Hp} {a : Addr} {xs : List V} (e : LamX.ExtN H H') (h : SqL K H a xs) : SqL K H' a xs := by
  rcases h with (h | ⟨o, h⟩) | h
  · exact .inl (.inl (e _ _ h fun ps z => by cases z))
  · exact .inl (.inr ⟨o, e _ _ h fun ps z => by cases z⟩)
  · exact .inr h
theorem tk_ext2 {H H' : Hp} (e : LamX.ExtN H H') : Tk K H H' := fun a xs h => by
  rcases h with (h | ⟨o, h⟩) | h
  · exact .inl (.inl (e _ _ h fun ps z => by cases z))
  · exact .inl (.inr ⟨o, e _ _ h fun ps z => by cases z⟩)
  · exact .inr h
theorem extN_same {H H' : Hp} (e : Same H H') : LamX.ExtN H H' := fun b o h _ => e b o h
/-! ### most_common -/
def fmapLen {α β : Type} (p : α → Bool) (g : α → β) (xs : List α) : List β := (xs.filter p).map g
/-- in how many places a name stands -/
def commonN (cs : Cs) (n : Str) : Nat := (cs.flatMap fun c => (c.filter fun l => decide (l.1 = n)).map fun _ => V.int 1).length
abbrev qMost : Str := "most_common.<locals>.<lambda>"
abbrev nMost : List Str := ["clauses", "names", "many", "name", "clause", "one", "truth"]
theorem scMost : FnScope nMost ["clauses", "names"] (defScope sMostCommon) := ⟨rfl, rfl, rfl, by decide +kernel, rfl, by decide +kernel, by decide +kernel⟩
def spMost (K : PySem.W.Frag) (T : List (Addr × Str)) : Sp := fun vs H Q _ => ∃ (v u : V) (cs : Cs) (ns : List Str), vs = [v, u] ∧ Dp K H v (dS cs) ∧ Dp K H u (dN ns) ∧ Few cs ∧ ns ≠ [] ∧ ns.length ≤ 1000 ∧ LamX.Tabs T H ∧ ∀ H' n, n ∈ ns → LamX.ExtN H H' → LamX.Tabs T H' → Q (.str n) H'
abbrev scMost1 : Scope := scOf (retOf (stAt sMostCommon 0))
abbrev eMost : Expr := retOf (stAt sMostCommon 1)
def kwOf : Expr → Expr
  | .Call _ _ [k] _ => k.value
  | e => e
def lamSc : Expr → Scope
  | .Lambda _ _ sc _ => sc
  | _ => { kind := .function, names := [], isGenerator := false, isCoroutine := false }
def dcVal : Expr → Expr
  | .DictComp _ v _ _ _ => v
  | e => e
abbrev scMost2 : Scope := scOf (arg0 (dcVal (retOf (stAt sMostCommon 0))))
abbrev scLam : Scope := lamSc (kwOf eMost)
theorem nscLam : NdefX.NScope ["name", "many"] ["name"] ["many"] scLam := NdefX.nscope_by (by decide +kernel)
section
variable {J J1 : It} {n n1 : Nat} {G G1 : Hp → Prop} {Y Y1 : Nat → Hp → V → Hp → Prop} {g1 : TG} {tt1 : TT} {te : TE} {vs1 : List Nat} {H1 : Hp} {D : Addr}
/-- the inner turns of a comprehension, some of them -/
theorem lcFIn {H4 : Hp} (w1 : Walk J1 n1 G1 Y1) (hD : H1 D = none) (s4 : Same H1 H4) {acc0 : List V} (ha : H4 D = some (.lst acc0)) (hsz : acc0.length + n1 ≤ sizeLine) (hG : ∀ H, Same H1 H → G1 H) (f : Nat → Option V) {σ2 : L2.St} {Nx : Hp → Prop}
    (hs : ∀ i x H H' (Rt : VK) (Rf : Hp → Prop), i < n1 → Same H1 H → Y1 i H x H' → (∀ y H4, f i = some y → Same H H4 → Rt y H4) → (∀ H4, f i = none → Same H H4 → Rf H4) →
      g1 x (wipe σ2 vs1) H' fun σ3 H5 => wipe σ3 vs1 = wipe σ2 vs1 ∧ tt1 σ3 H5 fun b H6 => if b = true then te σ3 H6 Rt else Rf H6)
    (hd : ∀ H, Same H1 H → H D = some (.lst (acc0 ++ (List.range n1).filterMap f)) → Nx H) :
    ∃ W1 : Nat → Nat → Hp → Prop, (∃ m, W1 0 m H4) ∧ ∀ j k H, W1 j k H →
      (J1.stop j H ∧ Nx H) ∨ (J1.go j H ∧ ∃ Nx1 : Hp → Prop, (∀ H', Nx1 H' → ∃ k', k' < k ∧ W1 (j + 1) k' H') ∧ ∀ x H', J1.yld j H x H' → g1 x (wipe σ2 vs1) H' fun σ3 H5 => wipe σ3 vs1 = wipe σ2 vs1 ∧ tt1 σ3 H5 fun b H6 =>
        if b = true then te σ3 H6 fun y H7 => ∃ acc, H7 D = some (.lst acc) ∧ acc.length < sizeLine ∧ Nx1 (upd H7 D (.lst (acc ++ [y]))) else Nx1 H6) := by
  refine ⟨fun j k H => k = n1 - j ∧ j ≤ n1 ∧ Same H1 H ∧ H D = some (.lst (acc0 ++ (List.range j).filterMap f)), ⟨n1, by simp, Nat.zero_le _, s4, by simpa using ha⟩, ?_⟩
  rintro j k H ⟨rfl, hj, sm, hacc⟩
  by_cases hlt : j < n1
  · refine .inr ⟨w1.goes j H hlt (hG H sm), fun H' => Same H1 H' ∧ H' D = some (.lst (acc0 ++ (List.range (j + 1)).filterMap f)), fun H' p' => ⟨n1 - (j + 1), by omega, rfl, hlt, p'⟩, fun x H' hy => ?_⟩
    refine hs j x H H' _ _ hlt sm (w1.yields j H x H' hlt (hG H sm) hy) (fun y H7 e s7 => ⟨_, s7 _ _ hacc, ?_, same_of (sm.trans s7) hD, ?_⟩) fun H7 e s7 => ⟨sm.trans s7, ?_⟩
    · have := fmap_len f j
      rw [List.length_append]; omega
    · rw [upd_same, filterMap_range_succ, e, List.append_assoc]
      rfl
    · rw [s7 _ _ hacc, filterMap_range_succ, e]
      simp
  · have e : j = n1 := by omega
    subst e
    exact .inl ⟨w1.stops H (hG H sm), hd H sm hacc⟩
end
def rLe (K : PySem.W.Frag) : List V → Hp → VK → Prop := fun xs H Q => ∃ p ys, xs = [.ref p] ∧ (SqL K H p ys ∨ SqT K H p ys) ∧ Q (.int ys.length) H
theorem ok_most_common (B : Blt mg) {c Pt : Addr} (hC : FunC K "most_common" "most_common" sMostCommon f fd c) (TB : LamX.TabB base mg c Pt) : FnOk P w K mg base CX0 4 f fd ["clauses", "names"] (spMost K [(Pt, qMost)]) := by
  refine hC.ok scMost (fun vs H Q E h => ?_) (fun A outer s H vs Q E hr h => ?_)
  · obtain ⟨v, u, cs, ns, rfl, _⟩ := h
    rfl
  · obtain ⟨v, u, cs, ns, rfl, hd, hn, few, nne, ln, hT, k⟩ := h
    refine ⟨_, pss_cons (ps_set (i := 2) scMost.nd rfl (Or.inr rfl) (pe_dc (own := [("name", 3)]) (g := gName 3) (tt := tYes) (tk := tVar 3) (tv := tCB (rLe K) (tCons (tLc2 (iTup K (tVar 0)) (gName 4) tYes (iTup K (tVar 4)) (gTup K 2 (gCons (gName 5) (gCons (gName 6) gNil))) (tTest (tOp rEq (tVar 5) (tVar 3))) (tC (.int 1)) [4, 5, 6] [5, 6]) tNil)) rfl scMost.nd (pi_tup (pv 1))
        (blkOk_by (N := nMost) (sc := defScope sMostCommon) (by decide +kernel)) (fun _ _ _ _ _ => pg_name (i := 3) scMost.nd rfl (Or.inr rfl)) (fun _ _ _ _ _ => pts_nil) (fun _ _ _ _ _ => pv 3)
        (fun _ _ _ _ _ => pe_callB call_len_seq (by rfl) B.len PySem.boot_len (pa_cons
          (pe_lc2 (own := [("clause", 4), ("one", 5), ("truth", 6)]) (vs1 := [5, 6]) (g := gName 4) (tt := tYes) (wi1 := iTup K (tVar 4)) (g1 := gTup K 2 (gCons (gName 5) (gCons (gName 6) gNil))) (tt1 := tTest (tOp rEq (tVar 5) (tVar 3))) (te := tC (.int 1)) rfl scMost.nd (pi_tup (pv 0))
            (show BlkOk nMost (rlb scMost1 (defScope sMostCommon)) scMost2 [("clause", 4), ("one", 5), ("truth", 6)] from blkOk_by (by decide +kernel)) (by decide)
            (fun _ _ _ _ _ => pg_name (i := 4) scMost.nd rfl (Or.inl rfl)) (fun _ _ _ _ _ => pts_nil) (fun _ _ _ _ _ => pi_tup (pv 4))
            (fun _ _ _ _ _ => pg_tup rfl (pgs_cons (pg_name (i := 5) scMost.nd rfl (Or.inl rfl)) (pgs_cons (pg_name (i := 6) scMost.nd rfl (Or.inl rfl)) pgs_nil))) (fun _ _ _ _ _ => pts_one (pt_cmpR op_eq (pv 5) (pv 3) (nomark _))) (fun _ _ _ _ _ => pe_int)) pa_nil))))
      (pss_one (ps_ret (pe_minLam (T := [(Pt, qMost)]) (N := ["name", "many"]) (js := [2]) (xn := "name") (fr := ["many"]) (k := 1) (tb := tTup (tCons (tOp (rI0 fun i j => .int (i - j)) (tC (.int 0)) (tDGet (tVar 1) (tVar 0))) (tCons (tVar 0) tNil))) rfl rfl B.min (pa_cons (pv 1) pa_nil) TB rfl (List.mem_singleton.mpr (by rfl)) (fun p hp _ => by simp at hp; rw [hp]; rfl) hr rfl nscLam (show ∀ y ∈ scLam.names, y.2 = .free → (defScope sMostCommon).names.lookup y.1 = some .cell ∨ (defScope sMostCommon).names.lookup y.1 = some .free from by decide +kernel) (by decide +kernel) rfl
        (fun _ _ _ _ _ _ => rfl) (fun A outer s H f c' hr2 => pe_tup (pa_cons (pe_op op_sub pe_int (pe_dget (hu0 hr2 (by decide)) (pv 1) (pv 0) (fun _ _ => rfl))) (pa_cons (pv 0) pa_nil)))))), ?_⟩
    obtain ⟨a, xs, rfl, ha, dx⟩ := dp_tup hd
    have lx : xs.length = cs.length := by have := dpLen dx; simpa using this
    obtain ⟨an, rfl, han⟩ := dp_names hn
    refine ⟨_, rfl, an, rfl, ⟨_, han⟩, fun D hD => dc_tup (K := K) (xs := ns.map V.str) (fun i H' => Same H H' ∧ ∃ kvs, H' D = some (.dK kvs) ∧ kvs.length ≤ i ∧ ∀ n ∈ ns.take i, valV kvs (.inr n) = some (.int (commonN cs n : Nat)))
      ⟨same_upd hD, [], upd_same, Nat.le_refl _, fun n hn => by simp at hn⟩ (fun i H' _ h => seqT h.1 han) ?_ ?_⟩
    · rintro i x H1 hx ⟨s1, kvs, hkv, hlk, hval⟩
      obtain ⟨hin, rfl⟩ := at_str hx
      generalize hnm : ns.getD i "" = nm at *
      refine ⟨rfl, tyes ⟨_, rfl, ?_⟩⟩
      refine ⟨_, rfl, a, rfl, ⟨_, seqT s1 ha⟩, fun D2 hD2 => lcVOut (walk_tup (xs := xs)) hD2 12 (by rw [lx]; exact Nat.le_trans (Nat.mul_le_mul_right 12 few.1) (by decide)) (fun H' e => seqT e (seqT s1 ha))
        (fun i => ((cs.getD i []).filter fun l => decide (l.1 = nm)).map fun _ => V.int 1) (fun i hi => by rw [List.length_map]; exact Nat.le_trans (List.length_filter_le _ _) (few.2 _ (mem_getD _ (by omega)))) ?_ ?_⟩
      · rintro j y _ H3 acc Nx hj sm3 hacc hl6 ⟨rfl, hy⟩ hN
        obtain ⟨hjc, dy⟩ := dp_at (enc := dC) [] (dpAllSame s1 _ _ dx) hy
        obtain ⟨b, zs, rfl, hb, dz⟩ := dp_tup dy
        have lz : zs.length = (cs.getD j []).length := by have := dpLen dz; simpa using this
        have l12 : (cs.getD j []).length ≤ 12 := few.2 _ (mem_getD _ hjc)
        refine ⟨rfl, tyes ⟨_, rfl, b, rfl, ⟨_, seqT sm3 hb⟩, lcFIn (H1 := H1) (walk_tup (xs := zs)) (D := D2) (acc0 := acc) hD2 sm3 hacc (by omega) (fun H' e => seqT e hb) (fun t => if ((cs.getD j []).getD t ("", false)).1 = nm then some (.int 1) else none) ?_ ?_⟩⟩
        · rintro t z _ H4 Rt Rf ht sm4 ⟨rfl, hz⟩ hT hF
          obtain ⟨htc, dl⟩ := dp_at (enc := dL) ("", false) (dpAllSame sm4 _ _ dz) hz
          obtain ⟨e, rfl, he⟩ := dp_lit dl
          refine ⟨e, _, rfl, he, rfl, _, _, rfl, _, _, rfl, rfl, rfl, ⟨_, rfl, _, rfl, rfl, _, rfl, ?_⟩⟩
          by_cases c1 : ((cs.getD j []).getD t ("", false)).1 = nm
          · exact ifT (decide_eq_true (congrArg V.str c1)) (hT _ _ (if_pos c1) (Same.refl _))
          · refine ifF (decide_eq_false fun e => c1 ?_) (hF _ (if_neg c1) (Same.refl _))
            injection e
        · intro H4 sm4 hD4
          rw [lz, fmap_range (cs.getD j []) (fun l => if l.1 = nm then some (V.int 1) else none) ("", false), fmap_yes (fun l : Lit => l.1 = nm) (fun _ => V.int 1)] at hD4
          exact hN _ sm4 hD4
      · intro H4 sm4 hD4
        rw [lx, flat_range cs (fun c => (c.filter fun l => decide (l.1 = nm)).map fun _ => V.int 1) []] at hD4
        have s14 := s1.trans sm4
        refine ⟨D2, _, rfl, .inl (SqL.of hD4), kvs, .inr nm, rfl, sm4 _ _ hkv, Nat.lt_of_le_of_lt (Nat.le_trans hlk (Nat.le_trans (Nat.le_of_lt hin) ln)) (by decide), same_of s14 hD, _, upd_same, Nat.le_trans (length_putK _ _ _) (Nat.succ_le_succ hlk), fun n hn => ?_⟩
        rw [valV_put]
        rw [List.take_add_one, at_ix hin, List.mem_append] at hn
        have en : nm = ns[i] := by rw [← hnm, List.getD_eq_getElem?_getD, at_ix hin]; rfl
        by_cases e : (Sum.inr n : Key) = Sum.inr nm
        · rw [if_pos e]
          injection e with e
          rw [e]
          rfl
        · rw [if_neg e]
          rcases hn with hn | hn
          · exact hval n hn
          · exfalso
            apply e
            simp at hn
            rw [hn, en]
    · rintro H1 ⟨s1, kvs, hkv, hlk, hval⟩
      rw [List.length_map, List.take_length] at hval
      have s1e := extN_same s1
      have T1 : LamX.Tabs [(Pt, qMost)] H1 := LamX.Tabs.ext hT s1
      refine ⟨_, rfl, T1, an, ns.map V.str, fun i => .tuple [.int (0 - (commonN cs (ns.getD i "") : Nat)), .str (ns.getD i "")], rfl, by simpa using nne, fun i j _ _ => ⟨rfl, by simp, by show (1 : Nat) ≤ 64; decide⟩, fun H2 eN T2 => ⟨?_, fun i x hx H' sm => ?_, fun i x hx _ H' sm => ?_⟩⟩
      · exact .inr (tk_ext2 eN _ _ (seqT s1 han))
      · obtain ⟨hin, rfl⟩ := at_str hx
        have hD2 : H' D = some (.dK kvs) := sm _ _ (eN _ _ hkv fun ps z => by cases z)
        have hv := hval _ (mem_getD (α := Str) "" hin)
        have hg : DGet H' D (.str (ns.getD i "")) (some (.int (commonN cs (ns.getD i "") : Nat))) := by
          rw [← hv]
          exact DGet.k (k := .inr (ns.getD i "")) hD2
        exact ⟨_, rfl, _, rfl, D, _, rfl, hg, _, _, rfl, rfl, _, rfl, Nat.succ_le_succ (Nat.succ_le_succ (Nat.zero_le _)), fun p hp => ⟨same_upd hp, dp_new hp (.cons (.int _) (.cons (.str _) .nil))⟩⟩
      · obtain ⟨hin, rfl⟩ := at_str hx
        exact k _ _ (mem_getD _ hin) ((s1e.trans eN).trans (extN_same sm)) (LamX.Tabs.ext T2 sm)
end
end Wc
set_option maxRecDepth 100000
set_option maxHeartbeats 8000000
/-! W33: the walker as it lies; __init__, begin, count_of, lay. -/
namespace Wc
open PySem PySem.Spec PyProof.Rows L2
open PySem.W (dataLt alike)
def wf (l d : Addr) (dp fr ag lim : Int) : List (Str × V) := [("shown", .non), ("laid", .ref l), ("numbers", .ref d), ("deep", .int dp), ("fresh", .int fr), ("again", .int ag), ("limit", .int lim)]
theorem lk_here {k : Str} {v : V} {r : List (Str × V)} : List.lookup k ((k, v) :: r) = some v := by
  have e : (k == k) = true := beq_self_eq_true k
  simp only [List.lookup, e]
theorem lk_past {k g : Str} {v : V} {r : List (Str × V)} (h : (k == g) = false) : List.lookup k ((g, v) :: r) = List.lookup k r := by
  simp only [List.lookup, h]
theorem put_here {f : Str} {v x : V} {r : List (Str × V)} : putF f v ((f, x) :: r) = (f, v) :: r := if_pos rfl
theorem put_past {f g : Str} {v x : V} {r : List (Str × V)} (h : ¬ g = f) : putF f v ((g, x) :: r) = (g, x) :: putF f v r := if_neg h
section
variable (l d : Addr) (dp fr ag lim x : Int)
theorem wf_shown : (wf l d dp fr ag lim).lookup ("shown" : Str) = some .non := lk_here
theorem wf_laid : (wf l d dp fr ag lim).lookup ("laid" : Str) = some (.ref l) := (lk_past (by decide +kernel)).trans lk_here
theorem wf_numbers : (wf l d dp fr ag lim).lookup ("numbers" : Str) = some (.ref d) := (lk_past (by decide +kernel)).trans ((lk_past (by decide +kernel)).trans lk_here)
theorem wf_deep : (wf l d dp fr ag lim).lookup ("deep" : Str) = some (.int dp) := (lk_past (by decide +kernel)).trans ((lk_past (by decide +kernel)).trans ((lk_past (by decide +kernel)).trans lk_here))
theorem wf_fresh : (wf l d dp fr ag lim).lookup ("fresh" : Str) = some (.int fr) := (lk_past (by decide +kernel)).trans ((lk_past (by decide +kernel)).trans ((lk_past (by decide +kernel)).trans ((lk_past (by decide +kernel)).trans lk_here)))
theorem wf_again : (wf l d dp fr ag lim).lookup ("again" : Str) = some (.int ag) := (lk_past (by decide +kernel)).trans ((lk_past (by decide +kernel)).trans ((lk_past (by decide +kernel)).trans ((lk_past (by decide +kernel)).trans ((lk_past (by decide +kernel)).trans lk_here))))
theorem wf_limit : (wf l d dp fr ag lim).lookup ("limit" : Str) = some (.int lim) := (lk_past (by decide +kernel)).trans ((lk_past (by decide +kernel)).trans ((lk_past (by decide +kernel)).trans ((lk_past (by decide +kernel)).trans ((lk_past (by decide +kernel)).trans ((lk_past (by decide +kernel)).trans lk_here)))))
theorem wf_no {m : Str} (h : (m == "shown") = false ∧ (m == "laid") = false ∧ (m == "numbers") = false ∧ (m == "deep") = false ∧ (m == "fresh") = false ∧ (m == "again") = false ∧ (m == "limit") = false) : (wf l d dp fr ag lim).lookup m = none :=
  (lk_past h.1).trans ((lk_past h.2.1).trans ((lk_past h.2.2.1).trans ((lk_past h.2.2.2.1).trans ((lk_past h.2.2.2.2.1).trans ((lk_past h.2.2.2.2.2.1).trans ((lk_past h.2.2.2.2.2.2).trans rfl))))))
theorem wf_pdeep : putF "deep" (.int x) (wf l d dp fr ag lim) = wf l d x fr ag lim := (put_past (by decide +kernel)).trans (congrArg _ ((put_past (by decide +kernel)).trans (congrArg _ ((put_past (by decide +kernel)).trans (congrArg _ put_here)))))
theorem wf_pfresh : putF "fresh" (.int x) (wf l d dp fr ag lim) = wf l d dp x ag lim := (put_past (by decide +kernel)).trans (congrArg _ ((put_past (by decide +kernel)).trans (congrArg _ ((put_past (by decide +kernel)).trans (congrArg _ ((put_past (by decide +kernel)).trans (congrArg _ put_here)))))))
theorem wf_pagain : putF "again" (.int x) (wf l d dp fr ag lim) = wf l d dp fr x lim := (put_past (by decide +kernel)).trans (congrArg _ ((put_past (by decide +kernel)).trans (congrArg _ ((put_past (by decide +kernel)).trans (congrArg _ ((put_past (by decide +kernel)).trans (congrArg _ ((put_past (by decide +kernel)).trans (congrArg _ put_here)))))))))
theorem wf_plimit : putF "limit" (.int x) (wf l d dp fr ag lim) = wf l d dp fr ag x := (put_past (by decide +kernel)).trans (congrArg _ ((put_past (by decide +kernel)).trans (congrArg _ ((put_past (by decide +kernel)).trans (congrArg _ ((put_past (by decide +kernel)).trans (congrArg _ ((put_past (by decide +kernel)).trans (congrArg _ ((put_past (by decide +kernel)).trans (congrArg _ put_here)))))))))))
end
theorem put_new {f : Str} {v : V} : ∀ {fs : List (Str × V)} (ks : List Str), fs.map (·.1) = ks → f ∉ ks → putF f v fs = fs ++ [(f, v)]
  | [], _, _, _ => rfl
  | (g, x) :: r, _, rfl, h => by
    have h1 : ¬ g = f := fun e => h (by rw [List.map_cons]; exact List.mem_cons.mpr (.inl e.symm))
    exact (put_past h1).trans (by rw [put_new (fs := r) (r.map (·.1)) rfl fun q => h (List.mem_cons_of_mem _ q)]; rfl)
theorem wn1 (l d : Addr) : putF "shown" .non [] = [(("shown" : Str), V.non)] := rfl
theorem wn2 (l d : Addr) : putF "laid" (.ref l) [(("shown" : Str), V.non)] = [(("shown" : Str), V.non), ("laid", .ref l)] := put_new ["shown"] rfl (by decide +kernel)
theorem wn3 (l d : Addr) : putF "numbers" (.ref d) [(("shown" : Str), V.non), ("laid", .ref l)] = [(("shown" : Str), V.non), ("laid", .ref l), ("numbers", .ref d)] := put_new ["shown", "laid"] rfl (by decide +kernel)
theorem wn4 (l d : Addr) : putF "deep" (.int 0) [(("shown" : Str), V.non), ("laid", .ref l), ("numbers", .ref d)] = [(("shown" : Str), V.non), ("laid", .ref l), ("numbers", .ref d), ("deep", .int 0)] := put_new ["shown", "laid", "numbers"] rfl (by decide +kernel)
theorem wn5 (l d : Addr) : putF "fresh" (.int 0) [(("shown" : Str), V.non), ("laid", .ref l), ("numbers", .ref d), ("deep", .int 0)] = [(("shown" : Str), V.non), ("laid", .ref l), ("numbers", .ref d), ("deep", .int 0), ("fresh", .int 0)] := put_new ["shown", "laid", "numbers", "deep"] rfl (by decide +kernel)
theorem wn6 (l d : Addr) : putF "again" (.int 0) [(("shown" : Str), V.non), ("laid", .ref l), ("numbers", .ref d), ("deep", .int 0), ("fresh", .int 0)] = [(("shown" : Str), V.non), ("laid", .ref l), ("numbers", .ref d), ("deep", .int 0), ("fresh", .int 0), ("again", .int 0)] := put_new ["shown", "laid", "numbers", "deep", "fresh"] rfl (by decide +kernel)
theorem wn7 (l d : Addr) : putF "limit" (.int 0) [(("shown" : Str), V.non), ("laid", .ref l), ("numbers", .ref d), ("deep", .int 0), ("fresh", .int 0), ("again", .int 0)] = wf l d 0 0 0 0 := put_new ["shown", "laid", "numbers", "deep", "fresh", "again"] rfl (by decide +kernel)
/-- the class Walker -/
structure WT (K : PySem.W.Frag) (C : Addr) : Prop where
  cl : Cls K C
  n1 : NoAttr K C "shown"
  n2 : NoAttr K C "laid"
  n3 : NoAttr K C "numbers"
  n4 : NoAttr K C "deep"
  n5 : NoAttr K C "fresh"
  n6 : NoAttr K C "again"
  n7 : NoAttr K C "limit"
/-- what the dict tells of the rows -/
structure NdOf (xs : List (PyData × Addr × V)) (rows : List Row) : Prop where
  some : ∀ cs v, ndLook xs (dS cs) = some v → ∃ r, r < rows.length ∧ (rowAt rows r).cs = cs ∧ v = .int (r : Nat)
  has : ∀ r, r < rows.length → (ndLook xs (dS (rowAt rows r).cs)).isSome = true
  len : xs.length ≤ rows.length
/-- a walker -/
structure Wlk (P : Program) (w : World) (K : PySem.W.Frag) (C p dx l d : Addr) (H : Hp) (rows : List Row) (dp fr ag lim : Int) : Prop where
  ins : H p = some (.ins C dx (wf l d dp fr ag lim))
  lst : ∃ vs, H l = some (.lst vs) ∧ DpAll K H vs (rows.map dRow)
  dct : ∃ xs, H d = some (NDictO P w d xs) ∧ NdK K H xs ∧ NdOf xs rows
/-- all but the walker's own objects and the tables stay -/
def KeepW (p l d : Addr) (H H' : Hp) : Prop := ∀ b o, H b = some o → b ≠ p → b ≠ l → b ≠ d → (∀ ps, o ≠ .tbl ps) → H' b = some o
theorem KeepW.refl {p l d : Addr} (H : Hp) : KeepW p l d H H := fun _ _ h _ _ _ _ => h
theorem KeepW.trans {p l d : Addr} {H H1 H2 : Hp} (a : KeepW p l d H H1) (b : KeepW p l d H1 H2) : KeepW p l d H H2 := fun c o h n1 n2 n3 n4 => b c o (a c o h n1 n2 n3 n4) n1 n2 n3 n4
theorem KeepW.ext {p l d : Addr} {H H' : Hp} (e : LamX.ExtN H H') : KeepW p l d H H' := fun c o h _ _ _ n => e c o h n
theorem KeepW.same {p l d : Addr} {H H' : Hp} (e : Same H H') : KeepW p l d H H' := .ext (extN_same e)
section
variable {P : Program} {w : World} {K : PySem.W.Frag} {C p dx l d : Addr} {H H' : Hp} {rows : List Row} {dp fr ag lim : Int}
/-- tuples stay -/
theorem KeepW.tk (k : KeepW p l d H H') (W : Wlk P w K C p dx l d H rows dp fr ag lim) : Tk K H H' := by
  obtain ⟨vs, hl, _⟩ := W.lst
  obtain ⟨xs, hd, _⟩ := W.dct
  have hi := W.ins
  intro a ys h
  have key : ∀ o, H a = some o → (o = .tup ys ∨ ∃ z, o = .frz z (.tup ys)) → H' a = some o := fun o h e => by
    refine k a o h (fun q => ?_) (fun q => ?_) (fun q => ?_) (fun ps q => ?_)
    · rw [q, hi] at h; cases h; rcases e with e | ⟨z, e⟩ <;> cases e
    · rw [q, hl] at h; cases h; rcases e with e | ⟨z, e⟩ <;> cases e
    · rw [q, hd] at h; cases h; rcases e with e | ⟨z, e⟩ <;> cases e
    · rw [q] at e; rcases e with e | ⟨z, e⟩ <;> cases e
  rcases h with (h | ⟨o, h⟩) | h
  · exact .inl (.inl (key _ h (.inl rfl)))
  · exact .inl (.inr ⟨o, key _ h (.inr ⟨o, rfl⟩)⟩)
  · exact .inr h
theorem Wlk.npl (W : Wlk P w K C p dx l d H rows dp fr ag lim) : p ≠ l ∧ p ≠ d ∧ l ≠ d := by
  obtain ⟨vs, hl, _⟩ := W.lst
  obtain ⟨xs, hd, _⟩ := W.dct
  have hi := W.ins
  refine ⟨fun q => ?_, fun q => ?_, fun q => ?_⟩
  · rw [q, hl] at hi; cases hi
  · rw [q, hd] at hi; cases hi
  · rw [q, hd] at hl; cases hl
end
/-! ### tables of code objects stay -/
theorem code_not_nd {P : Program} {w : World} {c : Addr} {q : Str} {xs : List (PyData × Addr × V)} : LamX.CodeO c q ≠ NDictO P w c xs := by
  intro e
  have e' := HO.ext.inj e
  have g : (⟨Array.replicate (c + 1) ⟨.none, none, .fields #[.none, .str q 0], #[]⟩, {}⟩ : Heap).get? c = some ⟨.none, none, .fields #[.none, .str q 0], #[]⟩ := by
    unfold Heap.get?
    rw [Array.getElem?_replicate, if_pos (Nat.lt_succ_self c)]
  have h2 := congrFun e' (⟨Array.replicate (c + 1) ⟨.none, none, .fields #[.none, .str q 0], #[]⟩, {}⟩ : Heap)
  have h1 := h2.mp ⟨_, _, _, g, rfl, rfl⟩
  obtain ⟨_, _, ys, _, o, es, ep, ho, _, hd, _⟩ := h1
  rw [g] at ho
  cases ho
  cases hd
theorem tabs_upd {T : List (Addr × Str)} {H : Hp} {a : Addr} {u : HO} (t : LamX.Tabs T H) (h1 : ∀ ps, H a ≠ some (.tbl ps)) (h2 : ∀ q, H a ≠ some (LamX.CodeO a q)) : LamX.Tabs T (upd H a u) := by
  intro p hp
  obtain ⟨ps, e1, e2, e3⟩ := t p hp
  have n : p.1 ≠ a := fun z => h1 ps (by rw [← z]; exact e1)
  refine ⟨ps, by rw [upd_ne n]; exact e1, e2, fun pos cv hc => ?_⟩
  obtain ⟨c, e4, e5⟩ := e3 pos cv hc
  have nc : c ≠ a := fun z => h2 p.2 (by rw [← z]; exact e5)
  exact ⟨c, e4, by rw [upd_ne nc]; exact e5⟩
theorem tabs_ins {T : List (Addr × Str)} {H : Hp} {a C dx : Addr} {fs : List (Str × V)} {u : HO} (t : LamX.Tabs T H) (h : H a = some (.ins C dx fs)) : LamX.Tabs T (upd H a u) := tabs_upd t (fun ps e => by rw [h] at e; cases e) fun q e => by rw [h] at e; cases e
theorem tabs_lst {T : List (Addr × Str)} {H : Hp} {a : Addr} {xs : List V} {u : HO} (t : LamX.Tabs T H) (h : H a = some (.lst xs)) : LamX.Tabs T (upd H a u) := tabs_upd t (fun ps e => by rw [h] at e; cases e) fun q e => by rw [h] at e; cases e
theorem tabs_nd {P : Program} {w : World} {T : List (Addr × Str)} {H : Hp} {a : Addr} {xs : List (PyData × Addr × V)} {u : HO} (t : LamX.Tabs T H) (h : H a = some (NDictO P w a xs)) : LamX.Tabs T (upd H a u) :=
  tabs_upd t (fun ps e => by rw [h] at e; cases e) fun q e => by
    rw [h] at e
    exact code_not_nd (Option.some.inj e).symm
theorem tabs_same {T : List (Addr × Str)} {H H' : Hp} (t : LamX.Tabs T H) (e : Same H H') : LamX.Tabs T H' := LamX.Tabs.ext t e
/-! ### steps -/
/-- tuples stay where something else is written -/
theorem tk_upd {K : PySem.W.Frag} {H : Hp} {a : Addr} {u : HO} (h1 : ∀ xs, H a ≠ some (.tup xs)) (h2 : ∀ o xs, H a ≠ some (.frz o (.tup xs))) : Tk K H (upd H a u) := fun b ys h => by
  rcases h with (h | ⟨o, h⟩) | h
  · exact .inl (.inl (by rw [upd_ne fun z => h1 ys (by rw [← z]; exact h)]; exact h))
  · exact .inl (.inr ⟨o, by rw [upd_ne fun z => h2 o ys (by rw [← z]; exact h)]; exact h⟩)
  · exact .inr h
theorem tk_ins {K : PySem.W.Frag} {H : Hp} {a C dx : Addr} {fs : List (Str × V)} {u : HO} (h : H a = some (.ins C dx fs)) : Tk K H (upd H a u) := tk_upd (fun xs e => by rw [h] at e; cases e) fun o xs e => by rw [h] at e; cases e
theorem tk_nd {P : Program} {w : World} {K : PySem.W.Frag} {H : Hp} {a : Addr} {xs : List (PyData × Addr × V)} {u : HO} (h : H a = some (NDictO P w a xs)) : Tk K H (upd H a u) := tk_upd (fun xs e => by rw [h] at e; cases e) fun o xs e => by rw [h] at e; cases e
/-- a walker's step: all but its own objects stay, the tables stay tables -/
structure Stp (T : List (Addr × Str)) (p l d : Addr) (H H' : Hp) : Prop where
  keep : KeepW p l d H H'
  tabs : LamX.Tabs T H'
theorem Stp.trans {T : List (Addr × Str)} {p l d : Addr} {H H1 H2 : Hp} (a : Stp T p l d H H1) (b : Stp T p l d H1 H2) : Stp T p l d H H2 := ⟨a.keep.trans b.keep, b.tabs⟩
theorem Stp.same {T : List (Addr × Str)} {p l d : Addr} {H H' : Hp} (t : LamX.Tabs T H) (e : Same H H') : Stp T p l d H H' := ⟨.same e, tabs_same t e⟩
theorem Stp.ext {T : List (Addr × Str)} {p l d : Addr} {H H' : Hp} (t : LamX.Tabs T H') (e : LamX.ExtN H H') : Stp T p l d H H' := ⟨.ext e, t⟩
theorem KeepW.upd {p l d a : Addr} {H : Hp} {u : HO} (h : a = p ∨ a = l ∨ a = d) : KeepW p l d H (upd H a u) := fun b o e n1 n2 n3 _ => by
  have : b ≠ a := fun z => h.elim (fun h => n1 (z.trans h)) fun h => h.elim (fun h => n2 (z.trans h)) fun h => n3 (z.trans h)
  rw [upd_ne this]
  exact e
section
variable {P : Program} {w : World} {K : PySem.W.Frag} {C p dx l d : Addr} {H H' : Hp} {rows : List Row} {dp fr ag lim : Int}
theorem nl_rows (rows : List Row) : noLstAll (rows.map dRow) = true := by simpa [noLst] using nl_map nl_dRow rows
theorem NdK.tk {xs : List (PyData × Addr × V)} (h : NdK K H xs) (t : Tk K H H') : NdK K H' xs := fun x hx => ⟨dpTk t _ _ (h x hx).2.1 (h x hx).1, (h x hx).2⟩
/-- from one heap to another in which its objects are the same -/
theorem Wlk.move (W : Wlk P w K C p dx l d H rows dp fr ag lim) (t : Tk K H H') (h1 : H' p = H p) (h2 : H' l = H l) (h3 : H' d = H d) : Wlk P w K C p dx l d H' rows dp fr ag lim := by
  obtain ⟨vs, hl, hv⟩ := W.lst
  obtain ⟨xs, hd, hk, hn⟩ := W.dct
  exact ⟨h1.trans W.ins, ⟨vs, h2.trans hl, dpAllTk t _ _ (nl_rows rows) hv⟩, ⟨xs, h3.trans hd, NdK.tk hk t, hn⟩⟩
theorem Wlk.ext (W : Wlk P w K C p dx l d H rows dp fr ag lim) (e : LamX.ExtN H H') : Wlk P w K C p dx l d H' rows dp fr ag lim := by
  obtain ⟨vs, hl, hv⟩ := W.lst
  obtain ⟨xs, hd, hk, hn⟩ := W.dct
  refine W.move (tk_ext2 e) ?_ ?_ ?_
  · rw [W.ins]; exact e _ _ W.ins fun ps z => by cases z
  · rw [hl]; exact e _ _ hl fun ps z => by cases z
  · rw [hd]; exact e _ _ hd fun ps z => by cases z
theorem Wlk.same (W : Wlk P w K C p dx l d H rows dp fr ag lim) (e : Same H H') : Wlk P w K C p dx l d H' rows dp fr ag lim := W.ext (extN_same e)
/-- other fields -/
theorem Wlk.fld (W : Wlk P w K C p dx l d H rows dp fr ag lim) {dp' fr' ag' lim' : Int} : Wlk P w K C p dx l d (upd H p (.ins C dx (wf l d dp' fr' ag' lim'))) rows dp' fr' ag' lim' := by
  obtain ⟨vs, hl, hv⟩ := W.lst
  obtain ⟨xs, hd, hk, hn⟩ := W.dct
  obtain ⟨n1, n2, n3⟩ := W.npl
  have t : Tk K H (upd H p (.ins C dx (wf l d dp' fr' ag' lim'))) := tk_ins W.ins
  exact ⟨upd_same, ⟨vs, by rw [upd_ne n1.symm]; exact hl, dpAllTk t _ _ (nl_rows rows) hv⟩, ⟨xs, by rw [upd_ne n2.symm]; exact hd, NdK.tk hk t, hn⟩⟩
end
section
variable {P : Program} {w : World} {K : PySem.W.Frag} {mg : Str → Option Value} {base : Heap} {f f1 C : Addr} {fd fd1 : FuncData}
/-- THE RULE for a def with defaults, nothing let out -/
theorem FunD.okN {x qual : Str} {params : Arguments} {body : List Stmt} {scope : Scope} {dvs : List V} {kws : List (Str × V)} {N ps : List Str} {k : Nat} {sp : Sp} (F : FunD K x qual params body scope dvs kws f fd) (S : FnScope N ps scope) (len : ∀ vs H Q E, sp vs H Q E → vs.length = ps.length)
    (hbody : ∀ (cdv : Value) (A : Around) (outer : List Env) (s : Shared) (H : Hp) (vs : List V) (Q : VK) (E : XK), Room k (A.deeper (envOfC qual scope s.heap.objs.size f cdv)) → sp vs H Q E →
      ∃ t, PSs (cxOf CX0 P w K mg base N qual scope f cdv A outer s H E).nox body t ∧ t { nx := fun _ H' => Q .non H', rt := Q } (start N vs) H) : FnOk P w K mg base CX0 (k + 1) f fd ps sp := by
  refine F.ok S len fun cdv A outer s H vs Q E hr hsp => ?_
  obtain ⟨t, h, q⟩ := hbody cdv A outer s H vs Q E hr hsp
  exact ⟨t, h.nox, q⟩
/-! ### __init__ -/
def spWInit (P : Program) (w : World) (K : PySem.W.Frag) (C : Addr) : Sp := fun vs H Q _ => ∃ (p dx : Addr), vs = [.ref p, .non] ∧ H p = some (.ins C dx []) ∧ ∀ H' l d, Wlk P w K C p dx l d H' [] 0 0 0 0 → H l = none → H d = none → (∀ b o, H b = some o → b ≠ p → H' b = some o) → Q .non H'
theorem scWInit : FnScope ["self", "shown"] ["self", "shown"] (defScope sWInit) := ⟨rfl, rfl, rfl, by decide +kernel, rfl, by decide +kernel, by decide +kernel⟩
theorem ok_winit {dvs : List V} {kws : List (Str × V)} (T : WT K C) (F : FunD K "__init__" "Walker.__init__" (defArgs sWInit) (defBody sWInit) (defScope sWInit) dvs kws f fd) : FnOk P w K mg base CX0 1 f fd ["self", "shown"] (spWInit P w K C) := by
  refine FunD.okN F scWInit (fun vs H Q E h => ?_) (fun cdv A outer s H vs Q E hr h => ?_)
  · obtain ⟨p, dx, rfl, _⟩ := h
    rfl
  · obtain ⟨p, dx, rfl, hp, k⟩ := h
    refine ⟨_, pss_cons (ps_fld (pv 0) (pv 1) rfl) (pss_cons (ps_fld (pv 0) (pe_lst pa_nil) rfl) (pss_cons (ps_fld (pv 0) pe_dnewN rfl) (pss_cons (ps_fld (pv 0) pe_int rfl) (pss_cons (ps_fld (pv 0) pe_int rfl) (pss_cons (ps_fld (pv 0) pe_int rfl) (pss_one (ps_fld (pv 0) pe_int rfl))))))), ?_⟩
    refine ⟨_, rfl, _, rfl, p, C, dx, _, rfl, hp, T.cl, T.n1, (by show 0 < 1000; decide), ?_⟩
    rw [wn1 0 0]
    refine ⟨Nat.zero_le _, fun l hl => ?_⟩
    have npl : p ≠ l := fun z => by rw [← z, upd_same] at hl; cases hl
    have hl0 : H l = none := by rw [upd_ne npl.symm] at hl; exact hl
    refine ⟨_, rfl, p, C, dx, _, rfl, (by rw [upd_ne npl]; exact upd_same), T.cl, T.n2, (by show 1 < 1000; decide), ?_⟩
    rw [wn2 l 0]
    intro d hd
    have npd : p ≠ d := fun z => by rw [← z, upd_same] at hd; cases hd
    have nld : l ≠ d := fun z => by rw [← z, upd_ne npl.symm, upd_same] at hd; cases hd
    have hd0 : H d = none := by rw [upd_ne npd.symm, upd_ne nld.symm, upd_ne npd.symm] at hd; exact hd
    refine ⟨_, rfl, p, C, dx, _, rfl, (by rw [upd_ne npd]; exact upd_same), T.cl, T.n3, (by show 2 < 1000; decide), ?_⟩
    rw [wn3 l d]
    refine ⟨_, rfl, p, C, dx, _, rfl, upd_same, T.cl, T.n4, (by show 3 < 1000; decide), ?_⟩
    rw [wn4 l d]
    refine ⟨_, rfl, p, C, dx, _, rfl, upd_same, T.cl, T.n5, (by show 4 < 1000; decide), ?_⟩
    rw [wn5 l d]
    refine ⟨_, rfl, p, C, dx, _, rfl, upd_same, T.cl, T.n6, (by show 5 < 1000; decide), ?_⟩
    rw [wn6 l d]
    refine ⟨_, rfl, p, C, dx, _, rfl, upd_same, T.cl, T.n7, (by show 6 < 1000; decide), ?_⟩
    rw [wn7 l d]
    refine k _ l d ⟨upd_same, ⟨[], ?_, .nil⟩, ⟨[], ?_, fun x hx => (by cases hx), ⟨fun cs v e => (by cases e), fun r hr => absurd hr (Nat.not_lt_zero _), Nat.le_refl _⟩⟩⟩ hl0 hd0 fun b o e n => ?_
    · simp only [upd_ne npl.symm, upd_ne nld]; exact upd_same
    · simp only [upd_ne npd.symm]; exact upd_same
    · have nbl : b ≠ l := ne_of_none e hl0
      have nbd : b ≠ d := ne_of_none e hd0
      simp only [upd_ne n, upd_ne nbl, upd_ne nbd]
      exact e
/-! ### only the instance changes -/
theorem upd_of {H H' : Hp} {p : Addr} {u : HO} (h1 : H' p = some u) (h2 : ∀ b, b ≠ p → H' b = H b) : H' = upd H p u := funext fun b => by
  by_cases e : b = p
  · rw [e, upd_same, h1]
  · rw [upd_ne e, h2 b e]
theorem Wlk.fldO {p dx l d : Addr} {H H' : Hp} {rows : List Row} {dp fr ag lim dp' fr' ag' lim' : Int} (W : Wlk P w K C p dx l d H rows dp fr ag lim) (h1 : H' p = some (.ins C dx (wf l d dp' fr' ag' lim'))) (h2 : ∀ b, b ≠ p → H' b = H b) : Wlk P w K C p dx l d H' rows dp' fr' ag' lim' := by
  rw [upd_of h1 h2]
  exact W.fld
theorem Stp.fldO {T : List (Addr × Str)} {p dx l d : Addr} {H H' : Hp} {rows : List Row} {dp fr ag lim dp' fr' ag' lim' : Int} (t : LamX.Tabs T H) (W : Wlk P w K C p dx l d H rows dp fr ag lim) (h1 : H' p = some (.ins C dx (wf l d dp' fr' ag' lim'))) (h2 : ∀ b, b ≠ p → H' b = H b) : Stp T p l d H H' := by
  rw [upd_of h1 h2]
  exact ⟨.upd (.inl rfl), tabs_ins t W.ins⟩
/-! ### begin -/
def spBegin (P : Program) (w : World) (K : PySem.W.Frag) (C : Addr) : Sp := fun vs H Q _ => ∃ (p dx l d : Addr) (rows : List Row) (dp fr ag lim m : Int), vs = [.ref p, .int m] ∧ Wlk P w K C p dx l d H rows dp fr ag lim ∧ ∀ H', H' p = some (.ins C dx (wf l d dp 0 0 m)) → (∀ b, b ≠ p → H' b = H b) → Q .non H'
theorem scBegin : FnScope ["self", "most"] ["self", "most"] (defScope sBegin) := ⟨rfl, rfl, rfl, by decide +kernel, rfl, by decide +kernel, by decide +kernel⟩
theorem ok_begin (T : WT K C) (F : Fun K "begin" "Walker.begin" sBegin f fd) : FnOk P w K mg base CX0 1 f fd ["self", "most"] (spBegin P w K C) := by
  refine F.ok scBegin (fun vs H Q E h => ?_) (fun cdv A outer s H vs Q E hr h => ?_)
  · obtain ⟨p, dx, l, d, rows, dp, fr, ag, lim, m, rfl, _⟩ := h
    rfl
  · obtain ⟨p, dx, l, d, rows, dp, fr, ag, lim, m, rfl, W, k⟩ := h
    refine ⟨_, pss_cons (ps_asg2 pe_int (pg_fld (pv 0)) (pg_fld (pv 0))) (pss_one (ps_fld (pv 0) (pv 1) rfl)), ?_⟩
    refine ⟨_, rfl, p, C, dx, _, rfl, W.ins, T.cl, T.n5, (by show 7 < 1000; decide), ?_⟩
    rw [wf_pfresh]
    refine ⟨_, rfl, p, C, dx, _, rfl, upd_same, T.cl, T.n6, (by show 7 < 1000; decide), ?_⟩
    rw [wf_pagain]
    refine ⟨_, rfl, _, rfl, p, C, dx, _, rfl, upd_same, T.cl, T.n7, (by show 7 < 1000; decide), ?_⟩
    rw [wf_plimit]
    exact k _ upd_same fun b n => by simp only [upd_ne n]
end
end Wc
set_option maxRecDepth 100000
set_option maxHeartbeats 8000000
/-! W34: count_of, lay. -/
namespace Wc
open PySem PySem.Spec PyProof.Rows L2
open PySem.W (dataLt alike)
theorem ndLook_put (xs : List (PyData × Addr × V)) (k j : PyData) (a : Addr) (v : V) : ndLook (ndPut xs k a v) j = if nkey j = nkey k then some v else ndLook xs j := by
  unfold ndPut
  by_cases hs : (ndLook xs k).isSome = true
  · rw [if_pos hs]
    induction xs with
    | nil => cases hs
    | cons x xs ih =>
      unfold ndLook at hs ⊢
      rw [List.map_cons, List.find?_cons]
      by_cases e : nkey x.1 = nkey k
      · rw [if_pos e]
        by_cases ej : nkey j = nkey k
        · rw [if_pos ej]
          have : decide (nkey x.1 = nkey j) = true := decide_eq_true (e.trans ej.symm)
          simp [this]
        · rw [if_neg ej]
          have h1 : decide (nkey x.1 = nkey j) = false := decide_eq_false fun z => ej (z.symm.trans e)
          rw [List.find?_cons, h1]
          clear hs ih
          induction xs with
          | nil => rfl
          | cons y ys ih2 =>
            rw [List.map_cons, List.find?_cons, List.find?_cons]
            by_cases ey : nkey y.1 = nkey k
            · rw [if_pos ey]
              have h2 : decide (nkey y.1 = nkey j) = false := decide_eq_false fun z => ej (z.symm.trans ey)
              simp only [h2]
              exact ih2
            · rw [if_neg ey]
              cases h3 : decide (nkey y.1 = nkey j) with
              | true => simp only
              | false => exact ih2
      · rw [if_neg e]
        rw [List.find?_cons, decide_eq_false e] at hs
        have ih' := ih hs
        unfold ndLook at ih'
        rw [List.find?_cons]
        cases h3 : decide (nkey x.1 = nkey j) with
        | true =>
          have : ¬ nkey j = nkey k := fun z => e ((of_decide_eq_true h3).trans z)
          rw [if_neg this]
        | false => exact ih'
  · rw [if_neg hs]
    have hn : ndLook xs k = none := by
      cases q : ndLook xs k with
      | none => rfl
      | some v => rw [q] at hs; exact absurd rfl hs
    clear hs
    induction xs with
    | nil =>
      unfold ndLook
      rw [List.nil_append, List.find?_cons]
      by_cases ej : nkey j = nkey k
      · rw [if_pos ej, decide_eq_true ej.symm]; rfl
      · rw [if_neg ej, decide_eq_false fun z => ej z.symm]
    | cons x xs ih =>
      unfold ndLook at hn ih ⊢
      rw [List.find?_cons] at hn
      cases h1 : decide (nkey x.1 = nkey k) with
      | true => rw [h1] at hn; cases hn
      | false =>
        rw [h1] at hn
        have ih' := ih hn
        rw [List.cons_append, List.find?_cons, List.find?_cons]
        cases h3 : decide (nkey x.1 = nkey j) with
        | true =>
          have : ¬ nkey j = nkey k := fun z => of_decide_eq_false h1 ((of_decide_eq_true h3).trans z)
          rw [if_neg this]
        | false => exact ih'
theorem rowAt_app {rows : List Row} {x : Row} {i : Nat} (h : i < rows.length) : rowAt (rows ++ [x]) i = rowAt rows i := by
  unfold rowAt
  rw [List.getD_eq_getElem?_getD, List.getD_eq_getElem?_getD, List.getElem?_append_left h]
theorem rowAt_end {rows : List Row} {x : Row} : rowAt (rows ++ [x]) rows.length = x := by
  unfold rowAt
  simp [List.getD_eq_getElem?_getD]
theorem cntBy_app {rows : List Row} {x : Row} {cs : Cs} {r : Rule} (h : ∀ i ∈ wanted r, i < rows.length) : cntBy (rows ++ [x]) cs r = cntBy rows cs r := by
  cases r with
  | void => rfl
  | free => rfl
  | unit l i =>
    show (rowAt (rows ++ [x]) i).cnt * lostW cs l (rowAt (rows ++ [x]) i).cs = (rowAt rows i).cnt * lostW cs l (rowAt rows i).cs
    rw [rowAt_app (h i (by simp [wanted]))]
  | parts rs =>
    show rs.foldl (fun acc i => acc * (rowAt (rows ++ [x]) i).cnt) 1 = rs.foldl (fun acc i => acc * (rowAt rows i).cnt) 1
    have h' : ∀ i ∈ rs, i < rows.length := h
    generalize 1 = z
    clear h
    induction rs generalizing z with
    | nil => rfl
    | cons i rs ih =>
      rw [List.foldl_cons, List.foldl_cons, rowAt_app (h' i (by simp))]
      exact ih (fun j hj => h' j (by simp [hj])) _
  | split n i j =>
    show (rowAt (rows ++ [x]) i).cnt * lostW cs (n, false) (rowAt (rows ++ [x]) i).cs + (rowAt (rows ++ [x]) j).cnt * lostW cs (n, true) (rowAt (rows ++ [x]) j).cs = (rowAt rows i).cnt * lostW cs (n, false) (rowAt rows i).cs + (rowAt rows j).cnt * lostW cs (n, true) (rowAt rows j).cs
    rw [rowAt_app (h i (by simp [wanted])), rowAt_app (h j (by simp [wanted]))]
theorem ndOf_put {xs : List (PyData × Addr × V)} {rows : List Row} {x : Row} {a : Addr} (h : NdOf xs rows) : NdOf (ndPut xs (dS x.cs) a (.int (rows.length : Nat))) (rows ++ [x]) := by
  refine ⟨fun cs v e => ?_, fun r hr => ?_, ?_⟩
  · rw [ndLook_put] at e
    by_cases c : nkey (dS cs) = nkey (dS x.cs)
    · rw [if_pos c] at e
      cases e
      refine ⟨rows.length, by simp, ?_, rfl⟩
      rw [rowAt_end]
      exact (nkey_dS_inj c).symm
    · rw [if_neg c] at e
      obtain ⟨r, h1, h2, h3⟩ := h.some cs v e
      exact ⟨r, by rw [List.length_append]; omega, by rw [rowAt_app h1]; exact h2, h3⟩
  · rw [ndLook_put]
    by_cases c : nkey (dS (rowAt (rows ++ [x]) r).cs) = nkey (dS x.cs)
    · rw [if_pos c]; rfl
    · rw [if_neg c]
      have hr' : r < rows.length := by
        rw [List.length_append, List.length_singleton] at hr
        rcases Nat.lt_or_ge r rows.length with z | z
        · exact z
        · exfalso
          have : r = rows.length := by omega
          rw [this, rowAt_end] at c
          exact c rfl
      rw [rowAt_app hr']
      exact h.has r hr'
  · have := ndPut_len xs (dS x.cs) a (.int (rows.length : Nat))
    have := h.len
    rw [List.length_append, List.length_singleton]
    omega
section
variable {P : Program} {w : World} {K : PySem.W.Frag} {mg : Str → Option Value} {base : Heap} {f f1 f2 C : Addr} {fd fd1 fd2 : FuncData}
/-! ### count_of -/
def spCountOf (P : Program) (w : World) (K : PySem.W.Frag) (C : Addr) : Sp := fun vs H Q _ => ∃ (p dx l d : Addr) (dp fr ag lim : Int) (rows : List Row) (r : Nat), vs = [.ref p, .int (r : Nat)] ∧ H p = some (.ins C dx (wf l d dp fr ag lim)) ∧ Trail K H l rows ∧ CbOk rows r ∧ ∀ H', Same H H' → Q (.int (cntBy rows (rowAt rows r).cs (rowAt rows r).rule : Nat)) H'
theorem scCountOf : FnScope ["self", "r"] ["self", "r"] (defScope sCountOf) := ⟨rfl, rfl, rfl, by decide +kernel, rfl, by decide +kernel, by decide +kernel⟩
theorem ok_count_of (T : WT K C) (G1 : FnOk P w K mg base CX0 3 f1 fd1 ["trail", "r", "shown"] (spCountBy K)) (D1 : Df K mg "count_by" sCountBy ["trail", "r", "shown"] f1 fd1) (F : Fun K "count_of" "Walker.count_of" sCountOf f fd) : FnOk P w K mg base CX0 4 f fd ["self", "r"] (spCountOf P w K C) := by
  refine F.ok scCountOf (fun vs H Q E h => ?_) (fun cdv A outer s H vs Q E hr h => ?_)
  · obtain ⟨p, dx, l, d, dp, fr, ag, lim, rows, r, rfl, _⟩ := h
    rfl
  · obtain ⟨p, dx, l, d, dp, fr, ag, lim, rows, r, rfl, hp, tr, cb, k⟩ := h
    refine ⟨_, pss_one (ps_ret (pe_call G1 hr rfl D1.mg D1.fn.kp D1.bd .nil pass0 (pa_cons (pe_fld (pv 0) rfl) (pa_cons (pv 1) (pa_cons (pe_fld (pv 0) rfl) pa_nil))))), ?_⟩
    exact ⟨_, rfl, p, C, dx, _, _, rfl, hp, T.cl, T.n2, wf_laid _ _ _ _ _ _, _, rfl, _, rfl, p, C, dx, _, _, rfl, hp, T.cl, T.n1, wf_shown _ _ _ _ _ _, l, r, rows, rfl, tr, cb, k⟩
/-! ### lay -/
theorem ixN_at {n j : Nat} (h : j < n) : ixN n (j : Int) = some j := by
  unfold ixN
  rw [if_pos (by omega), if_pos (by omega), Int.toNat_natCast]
theorem set_end {α : Type} (xs : List α) (a b : α) : (xs ++ [a]).set xs.length b = xs ++ [b] := by
  induction xs with
  | nil => rfl
  | cons x xs ih => rw [List.cons_append, List.length_cons, List.set_cons_succ, ih]; rfl
theorem NdK.put {H : Hp} {xs : List (PyData × Addr × V)} {k : PyData} {a : Addr} {v : V} (h : NdK K H xs) (d : Dp K H (.ref a) k) (kd : KeyD k) : NdK K H (ndPut xs k a v) := fun x hx => by
  unfold ndPut at hx
  split at hx
  · obtain ⟨y, hy, e⟩ := List.mem_map.mp hx
    have := h y hy
    split at e
    · rw [← e]; exact this
    · rw [← e]; exact this
  · rcases List.mem_append.mp hx with hx | hx
    · exact h x hx
    · have e : x = (k, a, v) := by simpa using hx
      rw [e]
      exact ⟨d, kd⟩
/-- rows that may be laid upon -/
structure RowsOk (rows : List Row) : Prop where
  few : ∀ q ∈ rows, Few q.cs
  cnt : ∀ q ∈ rows, q.cnt < 2 ^ 63
def spLay (P : Program) (w : World) (K : PySem.W.Frag) (C : Addr) (T : List (Addr × Str)) : Sp := fun vs H Q _ => ∃ (p dx l d : Addr) (v u : V) (dp fr ag lim : Int) (rows : List Row) (cs : Cs) (ru : Rule), vs = [.ref p, v, u] ∧ Wlk P w K C p dx l d H rows dp fr ag lim ∧ LamX.Tabs T H ∧ fr < lim ∧ Dp K H v (dS cs) ∧ Dp K H u (dR ru) ∧ Few cs ∧
  RowsOk rows ∧ rows.length ≤ 60000 ∧ (∀ i ∈ wanted ru, i < rows.length) ∧ (wanted ru).length ≤ 1000 ∧ ∀ H', Wlk P w K C p dx l d H' (rows ++ [⟨cs, cntBy rows cs ru, ru⟩]) dp (fr + 1) ag lim → Stp T p l d H H' → (∃ xs, H' d = some (NDictO P w d xs) ∧ NdK K H' xs ∧ ndLook xs (dS cs) = some (.int (rows.length : Nat))) → Q .non H'
theorem scLay : FnScope ["self", "clauses", "rule", "r"] ["self", "clauses", "rule"] (defScope sLay) := ⟨rfl, rfl, rfl, by decide +kernel, rfl, by decide +kernel, by decide +kernel⟩
theorem ok_lay {Tt : List (Addr × Str)} (B : Blt mg) (T : WT K C) (G1 : FnOk P w K mg base CX0 4 f1 fd1 ["self", "r"] (spCountOf P w K C)) (m1 : Meth K C "count_of" f1) (b1 : Binds K fd1 ["self", "r"] []) (F : Fun K "lay" "Walker.lay" sLay f fd) : FnOk P w K mg base CX0 5 f fd ["self", "clauses", "rule"] (spLay P w K C Tt) := by
  refine F.ok scLay (fun vs H Q E h => ?_) (fun cdv A outer s H vs Q E hr h => ?_)
  · obtain ⟨p, dx, l, d, v, u, dp, fr, ag, lim, rows, cs, ru, rfl, _⟩ := h
    rfl
  · obtain ⟨p, dx, l, d, v, u, dp, fr, ag, lim, rows, cs, ru, rfl, W, tb, hlt, dv, du, few, rok, hrl, hwa, hws, k⟩ := h
    refine ⟨_, pss_cons (ps_if (pt_cmpR op_ge (pe_fld (pv 0) rfl) (pe_fld (pv 0) rfl) (nomark _)) (pss_one ps_never) pss_nil)
      (pss_cons (ps_expr (pe_bm PySem.F.plainAttrs_list PySem.F.slot_list_append PySem.F.type_list_append mt_append (pe_fld (pv 0) rfl) (pa_cons (pe_tup (pa_cons (pv 1) (pa_cons pe_int (pa_cons (pv 2) pa_nil)))) pa_nil)))
      (pss_cons (ps_set (i := 3) scLay.nd rfl (Or.inl rfl) (pe_op op_sub (pe_callB call_len_seq (by rfl) B.len PySem.boot_len (pa_cons (pe_fld (pv 0) rfl) pa_nil)) pe_int))
      (pss_cons (ps_asg (pe_tup (pa_cons (pv 1) (pa_cons (pe_meth (pv 0) T.cl m1 G1 hr b1 .nil pass0 (pa_cons (pv 3) pa_nil)) (pa_cons (pv 2) pa_nil)))) (pg_sub (pe_fld (pv 0) rfl) (pv 3) set_list))
      (pss_cons (ps_asg (pv 3) (pg_sub (t := rPutNd P w K) (pe_fld (pv 0) rfl) (pv 1) (set_nd (hu0 hr (by decide)))))
      (pss_one (ps_fldaug (pv 0) pe_int in_add)))))), ?_⟩
    obtain ⟨vs, hl, hv⟩ := W.lst
    obtain ⟨xs, hd, hk, hn⟩ := W.dct
    obtain ⟨n1, n2, n3⟩ := W.npl
    obtain ⟨av, _, rfl, _, _⟩ := dp_tup dv
    have lv : vs.length = rows.length := by have := dpLen hv; simpa using this
    have hin := W.ins
    refine ⟨_, rfl, p, C, dx, _, _, rfl, hin, T.cl, T.n5, wf_fresh _ _ _ _ _ _, _, rfl, p, C, dx, _, _, rfl, hin, T.cl, T.n7, wf_limit _ _ _ _ _ _, _, _, rfl, rfl, _, rfl, ifF (decide_eq_false (by omega)) ?_⟩
    refine ⟨_, rfl, p, C, dx, _, _, rfl, hin, T.cl, T.n2, wf_laid _ _ _ _ _ _, .inl ⟨rfl, _, SqL.of hl⟩, _, rfl, _, rfl, Nat.succ_le_succ (Nat.succ_le_succ (Nat.succ_le_succ (Nat.zero_le _))), fun q hq => ?_⟩
    have sa : Same H (upd H q (.tup [.ref av, .int 0, u])) := same_upd hq
    have ta := tabs_same tb sa
    have Wa := W.same sa
    have hqa : SqT K (upd H q (.tup [.ref av, .int 0, u])) q [.ref av, .int 0, u] := SqT.of upd_same
    refine ⟨l, _, _, rfl, rfl, sa _ _ hl, by rw [lv]; exact Nat.lt_of_le_of_lt hrl (by decide), ?_⟩
    generalize upd H q (.tup [.ref av, .int 0, u]) = Ha at sa ta Wa hqa
    have hla := sa _ _ hl
    have hda := sa _ _ hd
    have tab := tabs_lst (u := .lst (vs ++ [.ref q])) ta hla
    have tkb : Tk K Ha (upd Ha l (.lst (vs ++ [.ref q]))) := tk_lst hla
    have hpb : upd Ha l (.lst (vs ++ [.ref q])) p = some (.ins C dx (wf l d dp fr ag lim)) := by rw [upd_ne n1]; exact sa _ _ hin
    have hdb : upd Ha l (.lst (vs ++ [.ref q])) d = some (NDictO P w d xs) := by rw [upd_ne n3.symm]; exact hda
    have hlb : upd Ha l (.lst (vs ++ [.ref q])) l = some (.lst (vs ++ [.ref q])) := upd_same
    have kb : KeepW p l d Ha (upd Ha l (.lst (vs ++ [.ref q]))) := .upd (.inr (.inl rfl))
    generalize upd Ha l (.lst (vs ++ [.ref q])) = Hb at tab tkb hpb hdb hlb kb
    have tkab : Tk K H Hb := (Tk.same sa).trans tkb
    have dvb := dpTk tkab _ _ (nl_dS cs) dv
    have dub := dpTk tkab _ _ (nl_dR ru) du
    have trl : Trail K Hb l (rows ++ [⟨cs, 0, ru⟩]) := ⟨_, .inl (SqL.of hlb), by
      rw [List.map_append]
      exact dpSnoc (dpAllTk tkab _ _ (nl_rows rows) hv) (.tup (tkb _ _ hqa) (.cons dvb (.cons (.int _) (.cons dub .nil))))⟩
    have cb : CbOk (rows ++ [⟨cs, 0, ru⟩]) rows.length := by
      refine ⟨by simp, fun x hx => ?_, fun x hx => ?_, fun i hi => ?_, ?_⟩
      · rcases List.mem_append.mp hx with hx | hx
        · exact rok.few x hx
        · have e : x = ⟨cs, 0, ru⟩ := by simpa using hx
          rw [e]; exact few
      · rcases List.mem_append.mp hx with hx | hx
        · exact rok.cnt x hx
        · have e : x = ⟨cs, 0, ru⟩ := by simpa using hx
          rw [e]; show 0 < 2 ^ 63; decide
      · rw [rowAt_end] at hi
        have := hwa i hi
        rw [List.length_append]; omega
      · rw [rowAt_end]; exact hws
    -- r = len(self.laid) - 1
    refine ⟨_, rfl, p, C, dx, _, _, rfl, hpb, T.cl, T.n2, wf_laid _ _ _ _ _ _, l, _, rfl, .inl (SqL.of hlb), _, _, rfl, rfl, ?_⟩
    have er : (((vs ++ [V.ref q]).length : Nat) : Int) - 1 = (rows.length : Nat) := by rw [List.length_append, List.length_singleton, lv]; omega
    show tSeq _ _ _ ([some (.ref p), some (.ref av), some u, some (.int ((((vs ++ [V.ref q]).length : Nat) : Int) - 1))]) Hb
    rw [er]
    refine ⟨_, rfl, _, rfl, p, dx, _, rfl, hpb, wf_no _ _ _ _ _ _ (by decide +kernel), _, rfl, p, dx, l, d, dp, fr, ag, lim, _, rows.length, rfl, hpb, trl, cb, fun Hc sc => ?_⟩
    rw [rowAt_end, cntBy_app hwa]
    refine ⟨_, rfl, Nat.succ_le_succ (Nat.succ_le_succ (Nat.succ_le_succ (Nat.zero_le _))), fun q2 hq2 => ?_⟩
    have sd : Same Hb (upd Hc q2 (.tup [.ref av, .int (cntBy rows cs ru : Nat), u])) := same_put sc hq2
    have hq2d : SqT K (upd Hc q2 (.tup [.ref av, .int (cntBy rows cs ru : Nat), u])) q2 [.ref av, .int (cntBy rows cs ru : Nat), u] := SqT.of upd_same
    refine ⟨_, rfl, p, C, dx, _, _, rfl, sd _ _ hpb, T.cl, T.n2, wf_laid _ _ _ _ _ _, _, rfl, l, _, _, rows.length, rfl, rfl, sd _ _ hlb, ixN_at (by rw [List.length_append, List.length_singleton]; omega), ?_⟩
    have eset : (vs ++ [V.ref q]).set rows.length (.ref q2) = vs ++ [.ref q2] := by rw [← lv]; exact set_end _ _ _
    rw [eset]
    generalize upd Hc q2 (.tup [.ref av, .int (cntBy rows cs ru : Nat), u]) = Hd at sd hq2d
    have tad := tabs_same tab sd
    have tae := tabs_lst (u := .lst (vs ++ [.ref q2])) tad (sd _ _ hlb)
    have tke : Tk K Hd (upd Hd l (.lst (vs ++ [.ref q2]))) := tk_lst (sd _ _ hlb)
    have hpe : upd Hd l (.lst (vs ++ [.ref q2])) p = some (.ins C dx (wf l d dp fr ag lim)) := by rw [upd_ne n1]; exact sd _ _ hpb
    have hde : upd Hd l (.lst (vs ++ [.ref q2])) d = some (NDictO P w d xs) := by rw [upd_ne n3.symm]; exact sd _ _ hdb
    have hle : upd Hd l (.lst (vs ++ [.ref q2])) l = some (.lst (vs ++ [.ref q2])) := upd_same
    have ke : KeepW p l d Hd (upd Hd l (.lst (vs ++ [.ref q2]))) := .upd (.inr (.inl rfl))
    generalize upd Hd l (.lst (vs ++ [.ref q2])) = He at tae tke hpe hde hle ke
    have tkH : Tk K H He := (tkab.trans (Tk.same sd)).trans tke
    -- self.numbers[clauses] = r
    refine ⟨_, rfl, _, rfl, p, C, dx, _, _, rfl, hpe, T.cl, T.n3, wf_numbers _ _ _ _ _ _, _, rfl, d, xs, av, dS cs, rfl, rfl, hde, NdK.tk hk tkH, dpTk tkH _ _ (nl_dS cs) dv, kd_dS cs, Nat.lt_of_le_of_lt (Nat.le_trans hn.len hrl) (by decide), ?_⟩
    have hkf := NdK.put (v := .int (rows.length : Nat)) (NdK.tk hk tkH) (dpTk tkH _ _ (nl_dS cs) dv) (kd_dS cs)
    have taf := tabs_nd (u := NDictO P w d (ndPut xs (dS cs) av (.int (rows.length : Nat)))) tae hde
    have tkf : Tk K He (upd He d (NDictO P w d (ndPut xs (dS cs) av (.int (rows.length : Nat))))) := tk_nd hde
    have hpf : upd He d (NDictO P w d (ndPut xs (dS cs) av (.int (rows.length : Nat)))) p = some (.ins C dx (wf l d dp fr ag lim)) := by rw [upd_ne n2]; exact hpe
    have hlf : upd He d (NDictO P w d (ndPut xs (dS cs) av (.int (rows.length : Nat)))) l = some (.lst (vs ++ [.ref q2])) := by rw [upd_ne n3]; exact hle
    have hdf : upd He d (NDictO P w d (ndPut xs (dS cs) av (.int (rows.length : Nat)))) d = some (NDictO P w d (ndPut xs (dS cs) av (.int (rows.length : Nat)))) := upd_same
    have kf : KeepW p l d He (upd He d (NDictO P w d (ndPut xs (dS cs) av (.int (rows.length : Nat))))) := .upd (.inr (.inr rfl))
    generalize upd He d (NDictO P w d (ndPut xs (dS cs) av (.int (rows.length : Nat)))) = Hf at taf tkf hpf hlf hdf kf
    refine ⟨_, rfl, p, C, dx, _, _, rfl, hpf, T.cl, T.n5, wf_fresh _ _ _ _ _ _, _, _, rfl, rfl, dx, _, hpf, (by show 7 < 1000; decide), ?_⟩
    rw [wf_pfresh]
    have Wf : Wlk P w K C p dx l d Hf (rows ++ [⟨cs, cntBy rows cs ru, ru⟩]) dp fr ag lim := ⟨hpf, ⟨_, hlf, by
      rw [List.map_append]
      refine dpSnoc (dpAllTk (tkH.trans tkf) _ _ (nl_rows rows) hv) (.tup ((tke.trans tkf) _ _ hq2d) (.cons (dpTk (tkH.trans tkf) _ _ (nl_dS cs) dv) (.cons (.int _) (.cons (dpTk (tkH.trans tkf) _ _ (nl_dR ru) du) .nil))))⟩, ⟨_, hdf, NdK.tk hkf tkf, ndOf_put (x := ⟨cs, cntBy rows cs ru, ru⟩) hn⟩⟩
    have kall : KeepW p l d H Hf := ((((KeepW.same sa).trans kb).trans (.same sd)).trans ke).trans kf
    refine k _ Wf.fld ⟨kall.trans (.upd (.inl rfl)), tabs_ins taf hpf⟩ ⟨_, by rw [upd_ne n2.symm]; exact hdf, NdK.tk (NdK.tk hkf tkf) (tk_ins hpf), ?_⟩
    rw [ndLook_put, if_pos rfl]
end
end Wc
set_option maxRecDepth 100000
set_option maxHeartbeats 8000000
/-! W35: what the plain law must tell (PlainLaw), rows that are good, plain_rule. -/
namespace Wc
open PySem PySem.Spec PyProof.Rows L2
open PySem.W (dataLt alike)
/-! ### what rows count -/
/-- all truths of so many names -/
def truths : Nat → List (List Bool)
  | 0 => [[]]
  | n + 1 => (truths n).flatMap fun r => [r ++ [false], r ++ [true]]
/-- a clause is met -/
def metC (had : Str → Bool) (c : Cl) : Bool := c.any fun l => had l.1 == l.2
def metS (had : Str → Bool) (cs : Cs) : Bool := cs.all (metC had)
/-- the truth that a row tells of a name -/
def hadOf (ns : List Str) (r : List Bool) : Str → Bool := fun n => ((ns.zip r).lookup n).getD false
/-- how many rows of some names meet clauses -/
def rowsMet (ns : List Str) (cs : Cs) : Nat := ((truths ns.length).filter fun r => metS (hadOf ns r) cs).length
/-- how many rows of its own names meet clauses -/
def mods (cs : Cs) : Nat := rowsMet (namesOf cs) cs
/-- what the plain law tells of clauses -/
structure PlainLaw : Prop where
  putWf : ∀ cs l, WfS cs → cs.length ≤ 12 → WfS (putC cs l) ∧ (putC cs l).length ≤ 12
  putNames : ∀ cs l, l.1 ∈ namesOf cs → (namesOf (putC cs l)).length < (namesOf cs).length
  grpWf : ∀ cs, WfS cs → cs.length ≤ 12 → (groupsC cs).length ≤ 12 ∧ ∀ c ∈ groupsC cs, WfS c ∧ c.length ≤ 12
  grpNames : ∀ cs, WfS cs → [] ∉ cs → (∀ c ∈ groupsC cs, 1 ≤ (namesOf c).length) ∧ ((groupsC cs).map fun c => (namesOf c).length).sum ≤ (namesOf cs).length
  namesNe : ∀ cs, cs ≠ [] → [] ∉ cs → namesOf cs ≠ []
  unitName : ∀ cs l, [l] ∈ cs → l.1 ∈ namesOf cs
  namesOk : ∀ cs, WfS cs → ∀ n ∈ namesOf cs, n ∈ pool
  count : ∀ rows cs ru, WfS cs → HoldsR rows cs ru → (∀ q ∈ rows, q.cnt = mods q.cs) → (∀ i ∈ wanted ru, i < rows.length) → cntBy rows cs ru = mods cs
  modsLt : ∀ cs, WfS cs → mods cs < 2 ^ 63
/-! ### good rows -/
structure Good (rows : List Row) : Prop where
  ok : ∀ q ∈ rows, OkRow q
  sem : ∀ q ∈ rows, q.cnt = mods q.cs
  ahead : ∀ r, r < rows.length → ∀ i ∈ wanted (rowAt rows r).rule, i < r
  hold : ∀ r, r < rows.length → HoldsR rows (rowAt rows r).cs (rowAt rows r).rule
  eq : ∀ r, r < rows.length → (rowAt rows r).cnt = cntBy rows (rowAt rows r).cs (rowAt rows r).rule
theorem Good.nil : Good [] := ⟨fun q h => (by cases h), fun q h => (by cases h), fun r h => absurd h (Nat.not_lt_zero _), fun r h => absurd h (Nat.not_lt_zero _), fun r h => absurd h (Nat.not_lt_zero _)⟩
theorem Good.rows {rows : List Row} (M : PlainLaw) (h : Good rows) : RowsOk rows := ⟨fun q hq => (h.ok q hq).few, fun q hq => by rw [h.sem q hq]; exact M.modsLt _ (h.ok q hq).wf⟩
theorem Good.trail {rows : List Row} (M : PlainLaw) (h : Good rows) (hl : rows.length ≤ 1000) : TrailOk rows := ⟨h.ok, (h.rows M).cnt, h.ahead, h.hold, h.eq, hl⟩
theorem rowAt_apps {rows ex : List Row} {i : Nat} (h : i < rows.length) : rowAt (rows ++ ex) i = rowAt rows i := by
  unfold rowAt
  rw [List.getD_eq_getElem?_getD, List.getD_eq_getElem?_getD, List.getElem?_append_left h]
theorem HoldsR.app {rows ex : List Row} {cs : Cs} {ru : Rule} (h : HoldsR rows cs ru) (hw : ∀ i ∈ wanted ru, i < rows.length) : HoldsR (rows ++ ex) cs ru := by
  cases ru with
  | void => exact h
  | free => exact h
  | unit l i => exact ⟨h.1, by rw [rowAt_apps (hw i (by simp [wanted]))]; exact h.2⟩
  | parts rs =>
    have h0 : rs.map (fun i => (rowAt rows i).cs) = groupsC cs := h
    show rs.map (fun i => (rowAt (rows ++ ex) i).cs) = groupsC cs
    rw [← h0]
    exact List.map_congr_left fun i hi => by rw [rowAt_apps (hw i hi)]
  | split n i j => exact ⟨h.1, by rw [rowAt_apps (hw i (by simp [wanted]))]; exact h.2.1, by rw [rowAt_apps (hw j (by simp [wanted]))]; exact h.2.2⟩
theorem Good.lay {rows : List Row} {cs : Cs} {ru : Rule} (M : PlainLaw) (h : Good rows) (wf : WfS cs) (hl : cs.length ≤ 12) (ok : OkR ru) (hw : ∀ i ∈ wanted ru, i < rows.length) (hh : HoldsR rows cs ru) : Good (rows ++ [⟨cs, cntBy rows cs ru, ru⟩]) := by
  have mem : ∀ {q : Row}, q ∈ rows ++ [(⟨cs, cntBy rows cs ru, ru⟩ : Row)] → q ∈ rows ∨ q = (⟨cs, cntBy rows cs ru, ru⟩ : Row) := fun hq => by
    rcases List.mem_append.mp hq with z | z
    · exact .inl z
    · exact .inr (by simpa using z)
  have at_ : ∀ r, r < (rows ++ [(⟨cs, cntBy rows cs ru, ru⟩ : Row)]).length → r < rows.length ∨ r = rows.length := fun r hr => by
    rw [List.length_append, List.length_singleton] at hr
    omega
  refine ⟨fun q hq => ?_, fun q hq => ?_, fun r hr i hi => ?_, fun r hr => ?_, fun r hr => ?_⟩
  · rcases mem hq with z | rfl
    · exact h.ok q z
    · exact ⟨wf, hl, ok⟩
  · rcases mem hq with z | rfl
    · exact h.sem q z
    · exact M.count rows cs ru wf hh h.sem hw
  · rcases at_ r hr with z | rfl
    · rw [rowAt_app z] at hi
      exact h.ahead r z i hi
    · rw [rowAt_end] at hi
      exact hw i hi
  · rcases at_ r hr with z | rfl
    · rw [rowAt_app z]
      exact (h.hold r z).app fun i hi => Nat.lt_trans (h.ahead r z i hi) z
    · rw [rowAt_end]
      exact hh.app hw
  · rcases at_ r hr with z | rfl
    · rw [rowAt_app z, cntBy_app fun i hi => Nat.lt_trans (h.ahead r z i hi) z]
      exact h.eq r z
    · rw [rowAt_end, cntBy_app hw]
/-! ### the promises -/
def gB (n : Nat) : Nat := 2 ^ (n + 1) - 1
section
variable (P : Program) (w : World) (K : PySem.W.Frag) (C : Addr) (T : List (Addr × Str))
/-- what a walk leaves: so many new rows at most -/
structure After (p dx l d : Addr) (H H' : Hp) (rows rows' : List Row) (dp fr lim : Int) (m : Nat) : Prop where
  walk : ∃ fr' ag' : Int, Wlk P w K C p dx l d H' rows' dp fr' ag' lim ∧ fr' ≤ fr + m
  stp : Stp T p l d H H'
  good : Good rows'
  pre : ∃ ex, rows' = rows ++ ex
  len : rows'.length ≤ rows.length + m
def spRowOf (n : Nat) : Sp := fun vs H Q _ => ∃ (p dx l d : Addr) (v : V) (dp fr ag lim : Int) (rows : List Row) (cs : Cs), vs = [.ref p, v] ∧ Wlk P w K C p dx l d H rows dp fr ag lim ∧ LamX.Tabs T H ∧ Dp K H v (dS cs) ∧ WfS cs ∧ cs.length ≤ 12 ∧ (namesOf cs).length < n ∧ Good rows ∧
  fr + gB (namesOf cs).length ≤ lim ∧ rows.length + gB (namesOf cs).length ≤ 60000 ∧
  ∀ H' rows' r, After P w K C T p dx l d H H' rows rows' dp fr lim (gB (namesOf cs).length) → r < rows'.length → (rowAt rows' r).cs = cs → (r + 1 = rows'.length ∨ rows' = rows) → Q (.int (r : Nat)) H'
def spPlain (n : Nat) : Sp := fun vs H Q _ => ∃ (p dx l d : Addr) (v u : V) (dp fr ag lim : Int) (rows : List Row) (cs : Cs), vs = [.ref p, v, u] ∧ Wlk P w K C p dx l d H rows dp fr ag lim ∧ LamX.Tabs T H ∧ Dp K H v (dS cs) ∧ Dp K H u (dN (namesOf cs)) ∧ WfS cs ∧ cs.length ≤ 12 ∧ (namesOf cs).length < n + 1 ∧ Good rows ∧
  fr + gB (namesOf cs).length ≤ lim + 1 ∧ rows.length + gB (namesOf cs).length ≤ 60000 ∧
  ∀ H' rows' ru y, After P w K C T p dx l d H H' rows rows' dp fr lim (gB (namesOf cs).length - 1) → Dp K H' y (dR ru) → OkR ru → HoldsR rows' cs ru → (∀ i ∈ wanted ru, i < rows'.length) → Q y H'
end
theorem gB_pos (n : Nat) : 1 ≤ gB n := by
  unfold gB
  have : 2 ^ 1 ≤ 2 ^ (n + 1) := Nat.pow_le_pow_right (by decide) (by omega)
  omega
theorem gB_succ (n : Nat) : gB (n + 1) = 2 * gB n + 1 := by
  unfold gB
  have : 2 ^ 1 ≤ 2 ^ (n + 1) := Nat.pow_le_pow_right (by decide) (by omega)
  rw [Nat.pow_succ 2 (n + 1)]
  omega
theorem gB_mono {a b : Nat} (h : a ≤ b) : gB a ≤ gB b := by
  unfold gB
  have : 2 ^ (a + 1) ≤ 2 ^ (b + 1) := Nat.pow_le_pow_right (by decide) (by omega)
  omega
theorem gB_lt {a b : Nat} (h : a < b) : 2 * gB a + 1 ≤ gB b := by
  rw [← gB_succ]
  exact gB_mono h
/-- parts -/
theorem gB_add (a b : Nat) (ha : 1 ≤ a) (hb : 1 ≤ b) : gB a + gB b + 1 ≤ gB (a + b) := by
  rcases Nat.le_total a b with h | h
  · have h1 := gB_mono h
    have h2 := gB_lt (show b < a + b by omega)
    omega
  · have h1 := gB_mono h
    have h2 := gB_lt (show a < a + b by omega)
    omega
theorem gB_sum : ∀ (xs : List Nat), (∀ x ∈ xs, 1 ≤ x) → xs ≠ [] → (xs.map gB).sum + (xs.length - 1) ≤ gB xs.sum
  | [], _, h => absurd rfl h
  | [x], _, _ => by simp
  | x :: y :: ys, h, _ => by
    have ih := gB_sum (y :: ys) (fun z hz => h z (by simp [hz])) (by simp)
    have hs : 1 ≤ (y :: ys).sum := by
      have := h y (by simp)
      rw [List.sum_cons]
      omega
    have := gB_add x (y :: ys).sum (h x (by simp)) hs
    simp only [List.map_cons, List.sum_cons, List.length_cons] at *
    omega
end Wc
set_option maxRecDepth 100000
set_option maxHeartbeats 8000000
/-! W36: plain_rule. -/
namespace Wc
open PySem PySem.Spec PyProof.Rows L2
open PySem.W (dataLt alike)
section
variable {P : Program} {w : World} {K : PySem.W.Frag} {mg : Str → Option Value} {base : Heap} {f f1 f2 f3 f4 f5 f6 C : Addr} {fd fd1 fd2 fd3 fd4 fd5 fd6 : FuncData} {T : List (Addr × Str)}
theorem After.pre' {p dx l d : Addr} {H H1 H2 : Hp} {rows rows1 : List Row} {dp fr lim : Int} {m : Nat} (s : Stp T p l d H H1) (b : After P w K C T p dx l d H1 H2 rows rows1 dp fr lim m) : After P w K C T p dx l d H H2 rows rows1 dp fr lim m :=
  ⟨b.walk, s.trans b.stp, b.good, b.pre, b.len⟩
theorem After.post {p dx l d : Addr} {H H1 H2 : Hp} {rows rows1 : List Row} {dp fr lim : Int} {m : Nat} (a : After P w K C T p dx l d H H1 rows rows1 dp fr lim m) (e : Same H1 H2) : After P w K C T p dx l d H H2 rows rows1 dp fr lim m := by
  obtain ⟨fr1, ag1, W1, l1⟩ := a.walk
  exact ⟨⟨fr1, ag1, W1.same e, l1⟩, a.stp.trans (.same a.stp.tabs e), a.good, a.pre, a.len⟩
theorem After.seq {p dx l d : Addr} {H H1 H2 : Hp} {rows rows1 rows2 : List Row} {dp fr fr1 lim : Int} {m1 m2 : Nat} (a : After P w K C T p dx l d H H1 rows rows1 dp fr lim m1) (l1 : fr1 ≤ fr + m1) (b : After P w K C T p dx l d H1 H2 rows1 rows2 dp fr1 lim m2) : After P w K C T p dx l d H H2 rows rows2 dp fr lim (m1 + m2) := by
  obtain ⟨fr2, ag2, W2, l2⟩ := b.walk
  obtain ⟨ex1, e1⟩ := a.pre
  obtain ⟨ex2, e2⟩ := b.pre
  have h1 := a.len
  have h2 := b.len
  exact ⟨⟨fr2, ag2, W2, by omega⟩, a.stp.trans b.stp, b.good, ⟨ex1 ++ ex2, by rw [e2, e1, List.append_assoc]⟩, by omega⟩
/-- a list of the caller's own is written -/
theorem After.put {p dx l d D : Addr} {H H1 : Hp} {rows rows1 : List Row} {dp fr lim : Int} {m : Nat} {xs ys : List V} (a : After P w K C T p dx l d H H1 rows rows1 dp fr lim m) (hD : H D = none) (h1 : H1 D = some (.lst xs)) (np : D ≠ p) (nl : D ≠ l) (nd : D ≠ d) : After P w K C T p dx l d H (upd H1 D (.lst ys)) rows rows1 dp fr lim m := by
  obtain ⟨fr1, ag1, W1, l1⟩ := a.walk
  refine ⟨⟨fr1, ag1, W1.move (tk_lst h1) (upd_ne np.symm) (upd_ne nl.symm) (upd_ne nd.symm), l1⟩, ⟨fun b o e n1 n2 n3 n4 => ?_, tabs_lst a.stp.tabs h1⟩, a.good, a.pre, a.len⟩
  rw [upd_ne (ne_of_none e hD)]
  exact a.stp.keep b o e n1 n2 n3 n4
theorem After.mono {p dx l d : Addr} {H H1 : Hp} {rows rows1 : List Row} {dp fr lim : Int} {m1 m2 : Nat} (a : After P w K C T p dx l d H H1 rows rows1 dp fr lim m1) (h : m1 ≤ m2) : After P w K C T p dx l d H H1 rows rows1 dp fr lim m2 := by
  obtain ⟨fr1, ag1, W1, l1⟩ := a.walk
  have := a.len
  exact ⟨⟨fr1, ag1, W1, by omega⟩, a.stp, a.good, a.pre, by omega⟩
theorem After.same {p dx l d : Addr} {H H1 : Hp} {rows : List Row} {dp fr ag lim : Int} (W : Wlk P w K C p dx l d H rows dp fr ag lim) (t : LamX.Tabs T H) (g : Good rows) (e : Same H H1) : After P w K C T p dx l d H H1 rows rows dp fr lim 0 :=
  ⟨⟨fr, ag, W.same e, by simp⟩, .same t e, g, ⟨[], by simp⟩, by simp⟩
theorem nl_map' (gs : List Cs) : noLstAll (gs.map dS) = true := by simpa [noLst] using nl_map nl_dS gs
abbrev nPlain : List Str := ["self", "clauses", "names", "literal", "parts", "part", "name", "low"]
theorem scPlain : FnScope nPlain ["self", "clauses", "names"] (defScope sPlainRule) := ⟨rfl, rfl, rfl, by decide +kernel, rfl, by decide +kernel, by decide +kernel⟩
theorem ok_plain {n k : Nat} (hk : 4 ≤ k) (M : PlainLaw) (B : Blt mg) (WT' : WT K C) (G1 : FnOk P w K mg base CX0 1 f1 fd1 ["clauses"] (spLeastUnit K)) (D1 : Df K mg "least_unit" sLeastUnit ["clauses"] f1 fd1) (G2 : FnOk P w K mg base CX0 2 f2 fd2 ["clauses", "literal"] (spPut K)) (D2 : Df K mg "put" sPut ["clauses", "literal"] f2 fd2)
    (G3 : FnOk P w K mg base CX0 4 f3 fd3 ["clauses"] (spGroups K)) (D3 : Df K mg "groups" sGroups ["clauses"] f3 fd3) (G4 : FnOk P w K mg base CX0 4 f4 fd4 ["clauses", "names"] (spMost K T)) (D4 : Df K mg "most_common" sMostCommon ["clauses", "names"] f4 fd4)
    (G5 : FnOk P w K mg base CX0 k f5 fd5 ["self", "clauses"] (spRowOf P w K C T n)) (m5 : Meth K C "row_of" f5) (b5 : Binds K fd5 ["self", "clauses"] [])
    (F : Fun K "plain_rule" "Walker.plain_rule" sPlainRule f fd) : FnOk P w K mg base CX0 (k + 1) f fd ["self", "clauses", "names"] (spPlain P w K C T n) := by
  refine F.ok scPlain (fun vs H Q E h => ?_) (fun cdv A outer s H vs Q E hr h => ?_)
  · obtain ⟨p, dx, l, d, v, u, dp, fr, ag, lim, rows, cs, rfl, _⟩ := h
    rfl
  · obtain ⟨p, dx, l, d, v, u, dp, fr, ag, lim, rows, cs, rfl, W, tb, dv, du, wf, l12, hn, good, hfr, hrl, kk⟩ := h
    have few : Few cs := ⟨l12, fun c hc => (wf.all c hc).len⟩
    have hr4 : Room 4 _ := hr.mono hk
    refine ⟨_, pss_cons (ps_if (pt_cmpR (op_inT (hu0 hr (by decide))) (pe_tup pa_nil) (pv 1) (by rfl)) (pss_one (ps_ret (pe_tup (pa_cons pe_str pa_nil)))) pss_nil)
      (pss_cons (ps_if (pt_cmpR (op_eqD (hu0 hr (by decide))) (pv 1) (pe_tup pa_nil) (nomark _)) (pss_one (ps_ret (pe_tup (pa_cons pe_str pa_nil)))) pss_nil)
      (pss_cons (ps_set (i := 3) scPlain.nd rfl (Or.inl rfl) (pe_call G1 (hr4.mono (by decide)) rfl D1.mg D1.fn.kp D1.bd .nil pass0 (pa_cons (pv 1) pa_nil)))
      (pss_cons (ps_if (pt_cmpR op_notN (pv 3) pe_non (nomark _)) (pss_one (ps_ret (pe_tup (pa_cons pe_str (pa_cons (pv 3) (pa_cons (pe_meth (pv 0) WT'.cl m5 G5 hr b5 .nil pass0 (pa_cons (pe_call G2 (hr4.mono (by decide)) rfl D2.mg D2.fn.kp D2.bd .nil pass0 (pa_cons (pv 1) (pa_cons (pv 3) pa_nil))) pa_nil)) pa_nil)))))) pss_nil)
      (pss_cons (ps_set (i := 4) scPlain.nd rfl (Or.inl rfl) (pe_call G3 hr4 rfl D3.mg D3.fn.kp D3.bd .nil pass0 (pa_cons (pv 1) pa_nil)))
      (pss_cons (ps_if (pt_cmpR op_gt (pe_callB call_len_seq (by rfl) B.len PySem.boot_len (pa_cons (pv 4) pa_nil)) pe_int (nomark _)) (pss_one (ps_ret (pe_tup (pa_cons pe_str (pa_cons
          (pe_callTy call_tuple_of (by rfl) B.tup (by decide +kernel) (pa_cons
            (pe_lc (own := [("part", 5)]) (g := gName 5) (tt := tYes) (te := tMeth C "row_of" (spRowOf P w K C T n) [] E0 (tVar 0) (tCons (tVar 5) tNil)) rfl scPlain.nd (pi_tup (pv 4)) (blkOk_by (N := nPlain) (sc := defScope sPlainRule) (by decide +kernel))
              (fun _ _ _ _ _ => pg_name (i := 5) scPlain.nd rfl (Or.inl rfl)) (fun _ _ _ _ _ => pts_nil) (fun _ _ _ _ _ => pe_meth (pv 0) WT'.cl m5 G5 hr b5 .nil pass0 (pa_cons (pv 5) pa_nil))) pa_nil)) pa_nil))))) pss_nil)
      (pss_cons (ps_set (i := 6) scPlain.nd rfl (Or.inl rfl) (pe_call G4 hr4 rfl D4.mg D4.fn.kp D4.bd .nil pass0 (pa_cons (pv 1) (pa_cons (pv 2) pa_nil))))
      (pss_cons (ps_set (i := 7) scPlain.nd rfl (Or.inl rfl) (pe_meth (pv 0) WT'.cl m5 G5 hr b5 .nil pass0 (pa_cons (pe_call G2 (hr4.mono (by decide)) rfl D2.mg D2.fn.kp D2.bd .nil pass0 (pa_cons (pv 1) (pa_cons (pe_tup (pa_cons (pv 6) (pa_cons pe_bl pa_nil))) pa_nil))) pa_nil)))
      (pss_one (ps_ret (pe_tup (pa_cons pe_str (pa_cons (pv 6) (pa_cons (pv 7) (pa_cons (pe_meth (pv 0) WT'.cl m5 G5 hr b5 .nil pass0 (pa_cons (pe_call G2 (hr4.mono (by decide)) rfl D2.mg D2.fn.kp D2.bd .nil pass0 (pa_cons (pv 1) (pa_cons (pe_tup (pa_cons (pv 6) (pa_cons pe_bl pa_nil))) pa_nil))) pa_nil)) pa_nil)))))))))))))), ?_⟩
    have hgp := gB_pos (namesOf cs).length
    refine ⟨Nat.zero_le _, fun p0 hp0 => ⟨_, rfl, _, _, dp_new hp0 .nil, dpSame (same_upd hp0) _ _ dv, sh_nil, sh_dS wf.ok, _, rfl, ?_⟩⟩
    have s0 : Same H (upd H p0 (.tup [])) := same_upd hp0
    generalize upd H p0 (.tup []) = H0 at s0
    by_cases hv : ([] : Cl) ∈ cs
    · rw [show ((cs.map dC).any fun z => PyData.eqv z (.tuple [])) = true from (any_iff (x := ([] : Cl)) eqv_dC).mpr hv]
      exact iteT ⟨Nat.succ_le_succ (Nat.zero_le _), fun q hq => kk _ rows .void (.ref q) ((After.same W tb good (same_put s0 hq)).mono (Nat.zero_le _)) (dp_new hq (.cons (.str _) .nil)) trivial hv fun i hi => by cases hi⟩
    rw [show ((cs.map dC).any fun z => PyData.eqv z (.tuple [])) = false from any_no (x := ([] : Cl)) eqv_dC hv]
    refine iteF ⟨_, rfl, Nat.zero_le _, fun p1 hp1 => ⟨_, _, dpSame (same_put s0 hp1) _ _ dv, dp_new hp1 .nil, sh_dS wf.ok, sh_nil, _, rfl, ?_⟩⟩
    have s1 : Same H (upd H0 p1 (.tup [])) := same_put s0 hp1
    generalize upd H0 p1 (.tup []) = H1 at s1
    rw [show PyData.eqv (dS cs) (.tuple []) = decide (cs = []) from eqv_dS cs []]
    by_cases he : cs = []
    · exact ifT (decide_eq_true he) ⟨Nat.succ_le_succ (Nat.zero_le _), fun q hq => kk _ rows .free (.ref q) ((After.same W tb good (same_put s1 hq)).mono (Nat.zero_le _)) (dp_new hq (.cons (.str _) .nil)) trivial he fun i hi => by cases hi⟩
    refine ifF (decide_eq_false he) ?_
    have nne := M.namesNe cs he hv
    have npos : 1 ≤ (namesOf cs).length := List.length_pos_iff.mpr nne
    refine ⟨_, rfl, _, cs, rfl, dpSame s1 _ _ dv, few, fun H2 y s2 hy => ?_⟩
    have s02 := s1.trans s2
    have W2 := W.same s02
    have tb2 := tabs_same tb s02
    -- one walk by a literal
    have step : ∀ (t : Lit), t.1 ∈ namesOf cs → WfS (putC cs t) ∧ (putC cs t).length ≤ 12 ∧ (namesOf (putC cs t)).length < n ∧ 2 * gB (namesOf (putC cs t)).length + 1 ≤ gB (namesOf cs).length := fun t ht => by
      have h1 := M.putWf cs t wf l12
      have h2 := M.putNames cs t ht
      exact ⟨h1.1, h1.2, by omega, gB_lt h2⟩
    cases el : leastU cs with
    | some t =>
      rw [el] at hy
      have hy' : Dp K H2 y (dL t) := hy
      have hmem := units_mem (leastU_mem el)
      have htn := M.unitName cs t hmem
      have htp := M.namesOk cs wf _ htn
      obtain ⟨at', rfl, hat⟩ := dp_lit hy'
      obtain ⟨w1, w2, w3, w4⟩ := step t htn
      refine ⟨_, rfl, rfl, _, rfl, ifT rfl ?_⟩
      refine ⟨_, rfl, _, rfl, p, dx, _, rfl, W2.ins, wf_no _ _ _ _ _ _ (by decide +kernel), _, rfl, _, rfl, _, _, cs, t, rfl, dpSame s02 _ _ dv, hy', wf.ok, htp, few, fun H4 y4 s4 dy4 => ?_⟩
      have s04 := s02.trans s4
      refine ⟨p, dx, l, d, y4, dp, fr, ag, lim, rows, putC cs t, rfl, W.same s04, tabs_same tb s04, dy4, w1, w2, w3, good, by omega, by omega, fun H5 rows' r af hr5 hcs _ => ?_⟩
      refine ⟨Nat.succ_le_succ (Nat.succ_le_succ (Nat.succ_le_succ (Nat.zero_le _))), fun q hq => ?_⟩
      have tk5 : Tk K H2 H5 := (Tk.same s4).trans (af.stp.keep.tk (W.same s04))
      refine kk _ rows' (.unit t r) (.ref q) (((After.pre' (.same tb s04) af).post (same_upd hq)).mono (by omega)) (dp_new hq (.cons (.str _) (.cons (dpTk tk5 _ _ (nl_dL t) hy') (.cons (.int _) .nil)))) htp ⟨hmem, hcs⟩ fun i hi => ?_
      have : i = r := by simpa [wanted] using hi
      rw [this]
      exact hr5
    | none =>
      rw [el] at hy
      have hy' : y = .non := hy
      subst hy'
      refine ⟨_, rfl, rfl, _, rfl, ifF rfl ?_⟩
      refine ⟨_, rfl, _, cs, rfl, dpSame s02 _ _ dv, wf.ok, few, fun H4 y4 s4 dy4 => ?_⟩
      have s04 := s02.trans s4
      have W4 := W.same s04
      have tb4 := tabs_same tb s04
      obtain ⟨ap, zs, rfl, hap, dz⟩ := dp_tup dy4
      have lz : zs.length = (groupsC cs).length := by have := dpLen dz; simpa using this
      obtain ⟨g12, gwf⟩ := M.grpWf cs wf l12
      obtain ⟨gn1, gsum⟩ := M.grpNames cs wf hv
      refine ⟨_, rfl, ap, _, rfl, .inr hap, _, _, rfl, rfl, _, rfl, ?_⟩
      by_cases hp1 : 1 < (groupsC cs).length
      · refine ifT (decide_eq_true (by rw [lz]; omega)) ?_
        have hms := gB_sum ((groupsC cs).map fun c => (namesOf c).length) (fun x hx => by
          obtain ⟨c, hc, rfl⟩ := List.mem_map.mp hx
          exact gn1 c hc) (by intro e; rw [List.map_eq_nil_iff] at e; rw [e] at hp1; simp at hp1)
        have hmono := gB_mono gsum
        rw [List.map_map, List.length_map] at hms
        generalize hgs : groupsC cs = gs at *
        have hle : ∀ i, (h : i < gs.length) → (namesOf gs[i]).length < n ∧ ((gs.take i).map fun c => gB (namesOf c).length).sum + gB (namesOf gs[i]).length ≤ gB (namesOf cs).length - 1 := fun i h => by
          have e1 : gs = gs.take i ++ gs[i] :: gs.drop (i + 1) := by rw [List.getElem_cons_drop, List.take_append_drop]
          have e2 : (gs.map (gB ∘ fun c => (namesOf c).length)).sum = ((gs.take i).map fun c => gB (namesOf c).length).sum + (gB (namesOf gs[i]).length + ((gs.drop (i + 1)).map fun c => gB (namesOf c).length).sum) := by
            conv => lhs; rw [e1]
            rw [List.map_append, List.sum_append, List.map_cons, List.sum_cons]
            rfl
          have hsm := gB_lt (show (namesOf gs[i]).length < (namesOf cs).length from by
            have e3 : (gs.map fun c => (namesOf c).length).sum = ((gs.take i).map fun c => (namesOf c).length).sum + ((namesOf gs[i]).length + ((gs.drop (i + 1)).map fun c => (namesOf c).length).sum) := by
              conv => lhs; rw [e1]
              rw [List.map_append, List.sum_append, List.map_cons, List.sum_cons]
            have e4 : ∀ ds : List Cs, (∀ c ∈ ds, 1 ≤ (namesOf c).length) → ds.length ≤ (ds.map fun c => (namesOf c).length).sum := fun ds hd => by
              induction ds with
              | nil => simp
              | cons c ds ih =>
                have h1 := hd c (by simp)
                have h2 := ih fun c hc => hd c (by simp [hc])
                rw [List.map_cons, List.sum_cons, List.length_cons]
                omega
            have h1 := e4 (gs.take i) fun c hc => gn1 c (List.mem_of_mem_take hc)
            have h2 := e4 (gs.drop (i + 1)) fun c hc => gn1 c (List.mem_of_mem_drop hc)
            rw [List.length_take] at h1
            rw [List.length_drop] at h2
            omega)
          have h3 : (namesOf gs[i]).length < (namesOf cs).length := by
            rcases Nat.lt_or_ge (namesOf gs[i]).length (namesOf cs).length with z | z
            · exact z
            · have := gB_mono z
              omega
          exact ⟨by omega, by omega⟩
        refine ⟨_, rfl, ap, rfl, ⟨_, hap⟩, fun D hD => ?_⟩
        have nDp : D ≠ p := fun z => by rw [z, W4.ins] at hD; cases hD
        have nDl : D ≠ l := fun z => by obtain ⟨_, hl, _⟩ := W4.lst; rw [z, hl] at hD; cases hD
        have nDd : D ≠ d := fun z => by obtain ⟨_, hd, _⟩ := W4.dct; rw [z, hd] at hD; cases hD
        refine lc_it (walk_tup (xs := zs)) (fun i H' => ∃ (rows1 : List Row) (rs : List Nat), After P w K C T p dx l d H4 H' rows rows1 dp fr lim ((gs.take i).map fun c => gB (namesOf c).length).sum ∧ H' D = some (.lst (rs.map fun r : Nat => V.int (r : Int))) ∧ rs.length = i ∧ (∀ r ∈ rs, r < rows1.length) ∧ rs.map (fun r => (rowAt rows1 r).cs) = gs.take i)
          ⟨rows, [], (After.same W4 tb4 good (same_upd hD)).mono (Nat.zero_le _), upd_same, rfl, fun r hr => (by cases hr), rfl⟩ (fun i H' _ ⟨_, _, a, _⟩ => a.stp.keep.tk W4 _ _ hap) ?_ ?_
        · rintro i x H5 _ hi ⟨rows1, rs, af, hD5, hl, hrs, hcs⟩ ⟨rfl, hx⟩
          have hig : i < gs.length := by omega
          obtain ⟨h1, h2⟩ := hle i hig
          obtain ⟨fr1, ag1, W5, l1⟩ := af.walk
          have tk5 := af.stp.keep.tk W4
          obtain ⟨_, dxi⟩ := dp_at (enc := dS) [] (dpAllTk tk5 _ _ (nl_map' gs) dz) hx
          have ei : gs.getD i [] = gs[i] := by rw [List.getD_eq_getElem?_getD, at_ix hig]; rfl
          rw [ei] at dxi
          obtain ⟨wi, li⟩ := gwf gs[i] (List.getElem_mem hig)
          have hlen := af.len
          refine ⟨rfl, tyes ⟨_, rfl, p, dx, _, rfl, W5.ins, wf_no _ _ _ _ _ _ (by decide +kernel), _, rfl, ?_⟩⟩
          refine ⟨p, dx, l, d, x, dp, fr1, ag1, lim, rows1, gs[i], rfl, W5, af.stp.tabs, dxi, wi, li, h1, af.good, by omega, by omega, fun H6 rows2 r af2 hr6 hcs6 _ => ?_⟩
          have hD6 := af2.stp.keep D _ hD5 nDp nDl nDd fun ps z => by cases z
          obtain ⟨ex, hex⟩ := af2.pre
          have et : gs.take (i + 1) = gs.take i ++ [gs[i]] := by rw [List.take_add_one, at_ix hig]; rfl
          refine ⟨_, hD6, ?_, rows2, rs ++ [r], ?_, ?_, by rw [List.length_append, hl]; rfl, fun q hq => ?_, ?_⟩
          · rw [List.length_map, hl]
            exact Nat.lt_of_lt_of_le hig (Nat.le_trans g12 (by decide))
          · have := (af.seq l1 af2).put (ys := rs.map (fun r : Nat => V.int (r : Int)) ++ [V.int (r : Nat)]) hD hD6 nDp nDl nDd
            rw [et, List.map_append, List.sum_append, List.map_cons, List.map_nil, List.sum_cons, List.sum_nil, Nat.add_zero]
            exact this
          · rw [upd_same, List.map_append]
            rfl
          · rcases List.mem_append.mp hq with hq | hq
            · have := hrs q hq
              rw [hex, List.length_append]
              omega
            · have e : q = r := by simpa using hq
              rw [e]
              exact hr6
          · rw [List.map_append, et, ← hcs]
            refine congr (congrArg _ (List.map_congr_left fun q hq => ?_)) (by rw [List.map_cons, List.map_nil, hcs6])
            rw [hex, rowAt_apps (hrs q hq)]
        · rintro H5 ⟨rows1, rs, af, hD5, hl, hrs, hcs⟩
          rw [lz] at hl
          have etk : gs.take zs.length = gs := by rw [lz]; exact List.take_length
          rw [etk] at af hcs
          refine ⟨D, _, rfl, .inl ⟨SqL.of hD5, fun q hq => ⟨Nat.succ_le_succ (Nat.succ_le_succ (Nat.zero_le _)), fun q2 hq2 => ?_⟩⟩⟩
          have dq : Dp K (upd H5 q (.tup (rs.map fun r : Nat => V.int (r : Int)))) (.ref q) (.tuple (rs.map dI)) := dp_new hq (dpAll_map (fun r : Nat => V.int (r : Int)) dI rs fun r _ => .int _)
          have hsum : (gs.map fun c => gB (namesOf c).length).sum = (gs.map (gB ∘ fun c => (namesOf c).length)).sum := rfl
          refine kk _ rows1 (.parts rs) (.ref q2) (((After.pre' (.same tb s04) af).post (same_put (same_upd hq) hq2)).mono (by omega)) (dp_new hq2 (.cons (.str _) (.cons dq .nil))) ⟨by omega, by omega⟩ ?_ hrs
          show rs.map (fun i => (rowAt rows1 i).cs) = groupsC cs
          rw [hcs, hgs]
      · refine ifF (decide_eq_false (by rw [lz]; omega)) ?_
        have h144 := namesOf_len few
        refine ⟨_, rfl, _, rfl, _, _, cs, namesOf cs, rfl, dpSame s04 _ _ dv, dpSame s04 _ _ du, few, nne, by omega, tb4, fun H5 nm hnm eN T5 => ?_⟩
        have W5 := W4.ext eN
        have tk5 : Tk K H H5 := (Tk.same s04).trans (tk_ext2 eN)
        have dv5 := dpTk tk5 _ _ (nl_dS cs) dv
        have hnp := M.namesOk cs wf _ hnm
        obtain ⟨a1, a2, a3, a4⟩ := step (nm, false) hnm
        obtain ⟨b1, b2, b3, b4⟩ := step (nm, true) hnm
        refine ⟨_, rfl, p, dx, _, rfl, W5.ins, wf_no _ _ _ _ _ _ (by decide +kernel), _, rfl, _, rfl, Nat.succ_le_succ (Nat.succ_le_succ (Nat.zero_le _)), fun q hq => ?_⟩
        have s5 : Same H5 (upd H5 q (.tup [V.str nm, .bl false])) := same_upd hq
        refine ⟨_, _, cs, (nm, false), rfl, dpSame s5 _ _ dv5, dp_new (ds := [.str nm, .bool false]) hq (.cons (.str _) (.cons (.bl _) .nil)), wf.ok, hnp, few, fun H6 y6 s6 dy6 => ?_⟩
        have s56 := s5.trans s6
        have W6 := W5.same s56
        have T6 := tabs_same T5 s56
        have dv6 := dpSame s56 _ _ dv5
        refine ⟨p, dx, l, d, y6, dp, fr, ag, lim, rows, putC cs (nm, false), rfl, W6, T6, dy6, a1, a2, a3, good, by omega, by omega, fun H7 rows1 r1 af1 hr1 hcs1 _ => ?_⟩
        obtain ⟨fr1, ag1, W7, l1⟩ := af1.walk
        have hlen1 := af1.len
        have dv7 := dpTk (af1.stp.keep.tk W6) _ _ (nl_dS cs) dv6
        refine ⟨_, rfl, _, rfl, _, rfl, p, dx, _, rfl, W7.ins, wf_no _ _ _ _ _ _ (by decide +kernel), _, rfl, _, rfl, Nat.succ_le_succ (Nat.succ_le_succ (Nat.zero_le _)), fun q2 hq2 => ?_⟩
        have s7 : Same H7 (upd H7 q2 (.tup [V.str nm, .bl true])) := same_upd hq2
        refine ⟨_, _, cs, (nm, true), rfl, dpSame s7 _ _ dv7, dp_new (ds := [.str nm, .bool true]) hq2 (.cons (.str _) (.cons (.bl _) .nil)), wf.ok, hnp, few, fun H8 y8 s8 dy8 => ?_⟩
        have s78 := s7.trans s8
        have af1' := af1.post s78
        refine ⟨p, dx, l, d, y8, dp, fr1, ag1, lim, rows1, putC cs (nm, true), rfl, W7.same s78, af1'.stp.tabs, dy8, b1, b2, b3, af1.good, by omega, by omega, fun H9 rows2 r2 af2 hr2 hcs2 _ => ?_⟩
        refine ⟨Nat.succ_le_succ (Nat.succ_le_succ (Nat.succ_le_succ (Nat.succ_le_succ (Nat.zero_le _)))), fun q3 hq3 => ?_⟩
        obtain ⟨ex, hex⟩ := af2.pre
        have hr1' : r1 < rows2.length := by rw [hex, List.length_append]; omega
        refine kk _ rows2 (.split nm r1 r2) (.ref q3) (((After.pre' ((Stp.same tb s04).trans ((Stp.ext T5 eN).trans (.same T5 s56))) (af1'.seq l1 af2)).post (same_upd hq3)).mono (by omega))
          (dp_new hq3 (.cons (.str _) (.cons (.str _) (.cons (.int _) (.cons (.int _) .nil))))) hnp ⟨hnm, ?_, hcs2⟩ fun i hi => ?_
        · rw [hex, rowAt_apps hr1]
          exact hcs1
        · have : i = r1 ∨ i = r2 := by simpa [wanted] using hi
          rcases this with e | e
          · rw [e]; exact hr1'
          · rw [e]; exact hr2
end
end Wc
set_option maxRecDepth 100000
set_option maxHeartbeats 8000000
/-! W37: try .. finally, rule_of, row_of. -/
namespace Wc
open PySem PySem.Spec PyProof.Rows L2
open PySem.W (dataLt alike)
/-- try: body / finally: suite -/
def tFin (tb : WX → TS) (tf tfs : TS) (Wout : WX) : TS := fun D σ H => tb (wFin tfs Wout) { nx := fun σ1 H1 => tf D σ1 H1, rt := fun _ _ => False } σ H
section
variable {X : Cx} {body : List Stmt} {f₀ : Stmt} {fs : List Stmt} {pos : Pos} {tb : WX → TS} {tf tfs : TS} {Wout : WX}
theorem ps_fin (hs : X.stack = X.env :: X.outer) (hf : X.env.frame = some X.env.locals) (hex : X.ex = []) (tk : Takes X Wout)
    (hb : ∀ (W : WX) (pn : List (Addr × Obj)) (xe : Value → Shared → Prop), Takes (X.tr pn xe) W → PassesOwn (model X.prog X.w) X.A X.env xe → PSs (X.tr pn xe) body (tb W))
    (hfin : PSs X.nox (f₀ :: fs) tf) (hsu : ∀ (a : Addr) (pn : List (Addr × Obj)), PSs (X.suite a pn) (f₀ :: fs) tfs) : PS X (.Try body [] [] (f₀ :: fs) pos) (tFin tb tf tfs Wout) := by
  refine ⟨fun pins s σ H D I h => ?_⟩
  have ok := I.ok
  refine wpAny_Try_finally ?_
  refine wpAny_mono ((hb (wFin tfs Wout) (X.pn ++ pins) (fun x s₁ => wpAny (model X.prog X.w) X.A (noteFrame x X.env) (fun _ s₂ => FinallyRaised X.prog X.w X.A X.xe X.env (f₀ :: fs) (SP X pins D) x s₂) (FinallyRaised X.prog X.w X.A X.xe X.env (f₀ :: fs) (SP X pins D)) s₁)
    (fun u s' xx => ?_) PassesOwn.looking).run [] s σ H { nx := fun σ1 H1 => tf D σ1 H1, rt := fun _ _ => False } (I.toTry _) h) (fun g s1 z => ?_) (fun x s1 hx => hx)
  · exact fin_exc hs hf hex ok tk hsu xx
  · cases g with
    | ret u =>
      obtain ⟨_, _, _, _, _, q⟩ := z
      exact False.elim q
    | brk =>
      obtain ⟨_, _, _, q⟩ := z
      exact False.elim q
    | cont =>
      obtain ⟨_, _, _, q⟩ := z
      exact False.elim q
    | next =>
      obtain ⟨σ1, H1, J1, q1⟩ := z
      refine wpAny_execs_nil ?_
      refine wpAny_mono (hfin.run pins s1 σ1 H1 D ((J1.ofTry ok).wish _) q1) (fun g2 s2 q2 => ?_) fun _ _ e => False.elim e
      have q3 : SP X pins D g2 s2 := q2.unwish
      cases g2 <;> exact q3
end
theorem takes0 {X : Cx} : Takes X (fun _ _ _ _ => False) := fun _ _ x => by
  obtain ⟨_, _, _, _, _, _, _, _, _, _, _, _, _, _, _, _, z⟩ := x
  exact z.elim
section
variable {P : Program} {w : World} {K : PySem.W.Frag} {mg : Str → Option Value} {base : Heap} {f f1 f2 f3 f4 f5 f6 C : Addr} {fd fd1 fd2 fd3 fd4 fd5 fd6 : FuncData} {T : List (Addr × Str)}
/-! ### rule_of -/
def spRuleOf (P : Program) (w : World) (K : PySem.W.Frag) (C : Addr) (T : List (Addr × Str)) (n : Nat) : Sp := fun vs H Q _ => ∃ (p dx l d : Addr) (v : V) (dp fr ag lim : Int) (rows : List Row) (cs : Cs), vs = [.ref p, v] ∧ Wlk P w K C p dx l d H rows dp fr ag lim ∧ LamX.Tabs T H ∧ Dp K H v (dS cs) ∧ WfS cs ∧ cs.length ≤ 12 ∧ (namesOf cs).length < n + 1 ∧ Good rows ∧
  fr + gB (namesOf cs).length ≤ lim + 1 ∧ rows.length + gB (namesOf cs).length ≤ 60000 ∧
  ∀ H' rows' ru y, After P w K C T p dx l d H H' rows rows' dp fr lim (gB (namesOf cs).length - 1) → Dp K H' y (dR ru) → OkR ru → HoldsR rows' cs ru → (∀ i ∈ wanted ru, i < rows'.length) → Q y H'
theorem scRuleOf : FnScope ["self", "clauses"] ["self", "clauses"] (defScope sRuleOf) := ⟨rfl, rfl, rfl, by decide +kernel, rfl, by decide +kernel, by decide +kernel⟩
theorem ok_rule_of {n k : Nat} (hk : 1 ≤ k) (WT' : WT K C) (G1 : FnOk P w K mg base CX0 1 f1 fd1 ["clauses"] (spNamesIn K)) (D1 : Df K mg "names_in" sNamesIn ["clauses"] f1 fd1) (G2 : FnOk P w K mg base CX0 k f2 fd2 ["self", "clauses", "names"] (spPlain P w K C T n)) (m2 : Meth K C "plain_rule" f2) (b2 : Binds K fd2 ["self", "clauses", "names"] [])
    (F : Fun K "rule_of" "Walker.rule_of" sRuleOf f fd) : FnOk P w K mg base CX0 (k + 1) f fd ["self", "clauses"] (spRuleOf P w K C T n) := by
  refine F.ok scRuleOf (fun vs H Q E h => ?_) (fun cdv A outer s H vs Q E hr h => ?_)
  · obtain ⟨p, dx, l, d, v, dp, fr, ag, lim, rows, cs, rfl, _⟩ := h
    rfl
  · obtain ⟨p, dx, l, d, v, dp, fr, ag, lim, rows, cs, rfl, W, tb, dv, wf, l12, hn, good, hfr, hrl, kk⟩ := h
    refine ⟨_, pss_one (ps_ret (pe_meth (pv 0) WT'.cl m2 G2 hr b2 .nil pass0 (pa_cons (pv 1) (pa_cons (pe_call G1 (hr.mono hk) rfl D1.mg D1.fn.kp D1.bd .nil pass0 (pa_cons (pv 1) pa_nil)) pa_nil)))), ?_⟩
    refine ⟨_, rfl, p, dx, _, rfl, W.ins, wf_no _ _ _ _ _ _ (by decide +kernel), _, rfl, _, rfl, _, cs, rfl, dv, ⟨l12, fun c hc => (wf.all c hc).len⟩, fun H1 y1 s1 dy1 => ?_⟩
    exact ⟨p, dx, l, d, v, y1, dp, fr, ag, lim, rows, cs, rfl, W.same s1, tabs_same tb s1, dpSame s1 _ _ dv, dy1, wf, l12, hn, good, hfr, hrl, fun H' rows' ru y af => kk H' rows' ru y (After.pre' (.same tb s1) af)⟩
/-! ### row_of -/
theorem scRowOf : FnScope ["self", "clauses"] ["self", "clauses"] (defScope sRowOf) := ⟨rfl, rfl, rfl, by decide +kernel, rfl, by decide +kernel, by decide +kernel⟩
theorem ok_row_of {n k : Nat} (hk : 5 ≤ k) (M : PlainLaw) (WT' : WT K C) (G1 : FnOk P w K mg base CX0 5 f1 fd1 ["self", "clauses", "rule"] (spLay P w K C T)) (m1 : Meth K C "lay" f1) (b1 : Binds K fd1 ["self", "clauses", "rule"] []) (G2 : FnOk P w K mg base CX0 k f2 fd2 ["self", "clauses"] (spRuleOf P w K C T n)) (m2 : Meth K C "rule_of" f2) (b2 : Binds K fd2 ["self", "clauses"] [])
    (F : Fun K "row_of" "Walker.row_of" sRowOf f fd) : FnOk P w K mg base CX0 (k + 1) f fd ["self", "clauses"] (spRowOf P w K C T (n + 1)) := by
  refine F.ok scRowOf (fun vs H Q E h => ?_) (fun cdv A outer s H vs Q E hr h => ?_)
  · obtain ⟨p, dx, l, d, v, dp, fr, ag, lim, rows, cs, rfl, _⟩ := h
    rfl
  · obtain ⟨p, dx, l, d, v, dp, fr, ag, lim, rows, cs, rfl, W, tb, dv, wf, l12, hn, good, hfr, hrl, kk⟩ := h
    refine ⟨_, pss_cons (ps_if (pt_cmpR (op_inNd (hu0 hr (by decide))) (pv 1) (pe_fld (pv 0) rfl) (by rfl)) (pss_cons (ps_fldaug (pv 0) pe_int in_add) (pss_one (ps_ret (pe_ndget (hu0 hr (by decide)) (pe_fld (pv 0) rfl) (pv 1) (fun _ _ => rfl))))) pss_nil)
      (pss_cons (ps_fldaug (pv 0) pe_int in_add)
      (pss_cons (ps_fin (tf := sFldAug K (tVar 0) (tC (.int 1)) rSub "deep") (tfs := sFldAug K (tVar 0) (tC (.int 1)) rSub "deep") (tb := fun _ => tDrop (tMeth C "lay" (spLay P w K C T) [] E0 (tVar 0) (tCons (tVar 1) (tCons (tMeth C "rule_of" (spRuleOf P w K C T n) [] E0 (tVar 0) (tCons (tVar 1) tNil)) tNil)))) rfl rfl rfl takes0
          (fun W pn xe _ _ => pss_one (ps_expr (pe_meth (pv 0) WT'.cl m1 G1 (hr.mono hk) b1 .nil pass0 (pa_cons (pv 1) (pa_cons (pe_meth (pv 0) WT'.cl m2 G2 hr b2 .nil pass0 (pa_cons (pv 1) pa_nil)) pa_nil)))))
          (pss_one (ps_fldaug (pv 0) pe_int in_sub)) (fun a pn => pss_one (ps_fldaug (pv 0) pe_int in_sub)))
      (pss_one (ps_ret (pe_ndget (hu0 hr (by decide)) (pe_fld (pv 0) rfl) (pv 1) (fun _ _ => rfl)))))), ?_⟩
    obtain ⟨xs, hd, hk', hnd⟩ := W.dct
    obtain ⟨n1, n2, n3⟩ := W.npl
    obtain ⟨av, _, rfl, _, _⟩ := dp_tup dv
    have hin := W.ins
    have hgp := gB_pos (namesOf cs).length
    refine ⟨_, rfl, _, rfl, p, C, dx, _, _, rfl, hin, WT'.cl, WT'.n3, wf_numbers _ _ _ _ _ _, d, xs, av, dS cs, rfl, rfl, hd, hk', dv, kd_dS cs, _, rfl, ?_⟩
    cases el : ndLook xs (dS cs) with
    | some z =>
      obtain ⟨r, hr', hcs, rfl⟩ := hnd.some cs z el
      refine ifT rfl ?_
      refine ⟨_, rfl, p, C, dx, _, _, rfl, hin, WT'.cl, WT'.n6, wf_again _ _ _ _ _ _, _, _, rfl, rfl, dx, _, hin, (by show 7 < 1000; decide), ?_⟩
      rw [wf_pagain]
      have tk1 : Tk K H (upd H p (.ins C dx (Wc.wf l d dp fr (ag + 1) lim))) := tk_ins hin
      refine ⟨_, rfl, p, C, dx, _, _, rfl, upd_same, WT'.cl, WT'.n3, wf_numbers _ _ _ _ _ _, _, rfl, d, xs, av, dS cs, _, rfl, rfl, by rw [upd_ne n2.symm]; exact hd, NdK.tk hk' tk1, dpTk tk1 _ _ (nl_dS cs) dv, kd_dS cs, el, ?_⟩
      exact kk _ rows r ⟨⟨fr, ag + 1, W.fld, by omega⟩, ⟨.upd (.inl rfl), tabs_ins tb hin⟩, good, ⟨[], by simp⟩, by omega⟩ hr' hcs (.inr rfl)
    | none =>
      refine ifF rfl ?_
      refine ⟨_, rfl, p, C, dx, _, _, rfl, hin, WT'.cl, WT'.n4, wf_deep _ _ _ _ _ _, _, _, rfl, rfl, dx, _, hin, (by show 7 < 1000; decide), ?_⟩
      rw [wf_pdeep]
      have W1 : Wlk P w K C p dx l d (upd H p (.ins C dx (Wc.wf l d (dp + 1) fr ag lim))) rows (dp + 1) fr ag lim := W.fld
      have st1 : Stp T p l d H (upd H p (.ins C dx (Wc.wf l d (dp + 1) fr ag lim))) := ⟨.upd (.inl rfl), tabs_ins tb hin⟩
      have tk1 : Tk K H (upd H p (.ins C dx (Wc.wf l d (dp + 1) fr ag lim))) := tk_ins hin
      generalize upd H p (.ins C dx (Wc.wf l d (dp + 1) fr ag lim)) = H1 at W1 st1 tk1
      have dv1 := dpTk tk1 _ _ (nl_dS cs) dv
      refine ⟨_, rfl, p, dx, _, rfl, W1.ins, wf_no _ _ _ _ _ _ (by decide +kernel), _, rfl, _, rfl, p, dx, _, rfl, W1.ins, wf_no _ _ _ _ _ _ (by decide +kernel), _, rfl, ?_⟩
      refine ⟨p, dx, l, d, .ref av, dp + 1, fr, ag, lim, rows, cs, rfl, W1, st1.tabs, dv1, wf, l12, hn, good, by omega, hrl, fun H2 rows2 ru y af dy oku hold hw => ?_⟩
      obtain ⟨fr2, ag2, W2, l2⟩ := af.walk
      have dv2 := dpTk (af.stp.keep.tk W1) _ _ (nl_dS cs) dv1
      have hlen := af.len
      refine ⟨p, dx, l, d, .ref av, y, dp + 1, fr2, ag2, lim, rows2, cs, ru, rfl, W2, af.stp.tabs, by omega, dv2, dy, ⟨l12, fun c hc => (wf.all c hc).len⟩, af.good.rows M, by omega, hw, oku.short, fun H3 W3 st3 hx => ?_⟩
      obtain ⟨xs3, hd3, hk3, el3⟩ := hx
      have dv3 := dpTk (st3.keep.tk W2) _ _ (nl_dS cs) dv2
      refine ⟨_, rfl, p, C, dx, _, _, rfl, W3.ins, WT'.cl, WT'.n4, wf_deep _ _ _ _ _ _, _, _, rfl, rfl, dx, _, W3.ins, (by show 7 < 1000; decide), ?_⟩
      rw [wf_pdeep, show dp + 1 - 1 = dp from by omega]
      have tk4 : Tk K H3 (upd H3 p (.ins C dx (Wc.wf l d dp (fr2 + 1) ag2 lim))) := tk_ins W3.ins
      refine ⟨_, rfl, p, C, dx, _, _, rfl, upd_same, WT'.cl, WT'.n3, wf_numbers _ _ _ _ _ _, _, rfl, d, xs3, av, dS cs, _, rfl, rfl, by rw [upd_ne n2.symm]; exact hd3, NdK.tk hk3 tk4, dpTk tk4 _ _ (nl_dS cs) dv3, kd_dS cs, el3, ?_⟩
      obtain ⟨ex, hex⟩ := af.pre
      refine kk _ _ rows2.length ⟨⟨fr2 + 1, ag2, W3.fld, by omega⟩, ((st1.trans af.stp).trans st3).trans ⟨.upd (.inl rfl), tabs_ins st3.tabs W3.ins⟩, af.good.lay M wf l12 oku hw hold, ⟨ex ++ [⟨cs, cntBy rows2 cs ru, ru⟩], by rw [hex, List.append_assoc]⟩, by rw [List.length_append, List.length_singleton]; omega⟩ (by simp) (by rw [rowAt_end]) (.inl (by simp))
end
end Wc
set_option maxRecDepth 100000
set_option maxHeartbeats 8000000
/-! W38: row_of for any clauses; trail_of, counted. -/
namespace Wc
open PySem PySem.Spec PyProof.Rows L2
open PySem.W (dataLt alike)
section
variable {P : Program} {w : World} {K : PySem.W.Frag} {mg : Str → Option Value} {base : Heap} {f f1 f2 f3 f4 f5 f6 fR fP fU fL C : Addr} {fd fd1 fd2 fd3 fd4 fd5 fd6 fdR fdP fdU fdL : FuncData} {T : List (Addr × Str)}
theorem ok_rows (M : PlainLaw) (B : Blt mg) (WT' : WT K C) (G1 : FnOk P w K mg base CX0 1 f1 fd1 ["clauses"] (spLeastUnit K)) (D1 : Df K mg "least_unit" sLeastUnit ["clauses"] f1 fd1) (G2 : FnOk P w K mg base CX0 2 f2 fd2 ["clauses", "literal"] (spPut K)) (D2 : Df K mg "put" sPut ["clauses", "literal"] f2 fd2)
    (G3 : FnOk P w K mg base CX0 4 f3 fd3 ["clauses"] (spGroups K)) (D3 : Df K mg "groups" sGroups ["clauses"] f3 fd3) (G4 : FnOk P w K mg base CX0 4 f4 fd4 ["clauses", "names"] (spMost K T)) (D4 : Df K mg "most_common" sMostCommon ["clauses", "names"] f4 fd4)
    (G5 : FnOk P w K mg base CX0 1 f5 fd5 ["clauses"] (spNamesIn K)) (D5 : Df K mg "names_in" sNamesIn ["clauses"] f5 fd5)
    (FR : Fun K "row_of" "Walker.row_of" sRowOf fR fdR) (mR : Meth K C "row_of" fR) (bR : Binds K fdR ["self", "clauses"] [])
    (FP : Fun K "plain_rule" "Walker.plain_rule" sPlainRule fP fdP) (mP : Meth K C "plain_rule" fP) (bP : Binds K fdP ["self", "clauses", "names"] [])
    (FU : Fun K "rule_of" "Walker.rule_of" sRuleOf fU fdU) (mU : Meth K C "rule_of" fU) (bU : Binds K fdU ["self", "clauses"] [])
    (GL : FnOk P w K mg base CX0 5 fL fdL ["self", "clauses", "rule"] (spLay P w K C T)) (mL : Meth K C "lay" fL) (bL : Binds K fdL ["self", "clauses", "rule"] []) :
    ∀ n, FnOk P w K mg base CX0 (3 * n + 5) fR fdR ["self", "clauses"] (spRowOf P w K C T n)
  | 0 => by
    refine FR.ok scRowOf (fun vs H Q E h => ?_) (fun cdv A outer s H vs Q E hr h => ?_)
    · obtain ⟨p, dx, l, d, v, dp, fr, ag, lim, rows, cs, rfl, _⟩ := h
      rfl
    · obtain ⟨p, dx, l, d, v, dp, fr, ag, lim, rows, cs, rfl, _, _, _, _, _, hn, _⟩ := h
      exact absurd hn (Nat.not_lt_zero _)
  | n + 1 => by
    have ih := ok_rows M B WT' G1 D1 G2 D2 G3 D3 G4 D4 G5 D5 FR mR bR FP mP bP FU mU bU GL mL bL n
    have gP := ok_plain (by omega) M B WT' G1 D1 G2 D2 G3 D3 G4 D4 ih mR bR FP
    have gU := ok_rule_of (by omega) WT' G5 D5 gP mP bP FU
    exact ok_row_of (by omega) M WT' GL mL bL gU mU bU FR
/-! ### trail_of -/
def spTrailOf (K : PySem.W.Frag) (T : List (Addr × Str)) : Sp := fun vs H Q _ => ∃ (v : V) (m : Int) (ns : List Str) (cs : Cs), vs = [v, .int m] ∧ Dp K H v (dF ns cs) ∧ WfS cs ∧ cs.length ≤ 12 ∧ (namesOf cs).length < 8 ∧ LamX.Tabs T H ∧ 255 ≤ m ∧
  ∀ H' rows y, LamX.ExtN H H' → LamX.Tabs T H' → Dp K H' y (dT rows) → Good rows → rows ≠ [] → (rowAt rows (rows.length - 1)).cs = cs → rows.length ≤ 255 → Q y H'
abbrev nTrail : List Str := ["form", "most", "walker"]
theorem scTrail : FnScope nTrail ["form", "most"] (defScope sTrailOf) := ⟨rfl, rfl, rfl, by decide +kernel, rfl, by decide +kernel, by decide +kernel⟩
theorem ok_trail_of {dvs : List V} {kws : List (Str × V)} {ds1 : List Value} (B : Blt mg) (WT' : WT K C) (hgC : mg "Walker" = some (.ref C)) (MK : Mk K C f1) (G1 : FnOk P w K mg base CX0 1 f1 fd1 ["self", "shown"] (spWInit P w K C)) (b1 : Binds K fd1 ["self", "shown"] ds1) (v1 : Vals [V.non] ds1)
    (G2 : FnOk P w K mg base CX0 1 f2 fd2 ["self", "most"] (spBegin P w K C)) (m2 : Meth K C "begin" f2) (b2 : Binds K fd2 ["self", "most"] []) (GR : FnOk P w K mg base CX0 29 fR fdR ["self", "clauses"] (spRowOf P w K C T 8)) (mR : Meth K C "row_of" fR) (bR : Binds K fdR ["self", "clauses"] [])
    (F : FunD K "trail_of" "trail_of" (defArgs sTrailOf) (defBody sTrailOf) (defScope sTrailOf) dvs kws f fd) : FnOk P w K mg base CX0 30 f fd ["form", "most"] (spTrailOf K T) := by
  refine FunD.okN F scTrail (fun vs H Q E h => ?_) (fun cdv A outer s H vs Q E hr h => ?_)
  · obtain ⟨v, m, ns, cs, rfl, _⟩ := h
    rfl
  · obtain ⟨v, m, ns, cs, rfl, dv, wf, l12, hn, tb, hm, kk⟩ := h
    refine ⟨_, pss_cons (ps_set (i := 2) scTrail.nd rfl (Or.inl rfl) (pe_make0 MK G1 (hr.mono (by decide)) rfl hgC b1 v1 pass0))
      (pss_cons (ps_expr (pe_meth (pv 2) WT'.cl m2 G2 (hr.mono (by decide)) b2 .nil pass0 (pa_cons (pv 1) pa_nil)))
      (pss_cons (ps_expr (pe_meth (pv 2) WT'.cl mR GR hr bR .nil pass0 (pa_cons (pe_ix ix_tup (pv 0) pe_int (fun _ _ => rfl)) pa_nil)))
      (pss_one (ps_ret (pe_callTy call_tuple_of (by rfl) B.tup (by decide +kernel) (pa_cons (pe_fld (pv 2) rfl) pa_nil)))))), ?_⟩
    obtain ⟨af, nv, cv, rfl, haf, d1, d2⟩ := dp_form dv
    intro x dx nx ndx nex
    have s0 : Same H (upd (upd H dx (.own x)) x (.ins C dx [])) := fun b o e => by
      rw [upd_ne (ne_of_none e nx), upd_ne (ne_of_none e ndx)]
      exact e
    refine ⟨x, dx, rfl, upd_same, fun H1 l d W hl hd keep => ⟨rfl, ?_⟩⟩
    have s1 : Same H H1 := fun b o e => keep b o (s0 b o e) (ne_of_none e nx)
    have hl0 : H l = none := by
      cases q : H l with
      | none => rfl
      | some o => rw [s0 _ _ q] at hl; cases hl
    have hd0 : H d = none := by
      cases q : H d with
      | none => rfl
      | some o => rw [s0 _ _ q] at hd; cases hd
    have tb1 := tabs_same tb s1
    refine ⟨_, rfl, x, dx, _, rfl, W.ins, wf_no _ _ _ _ _ _ (by decide +kernel), _, rfl, x, dx, l, d, [], 0, 0, 0, 0, m, rfl, W, fun H2 h1 h2 => ?_⟩
    have W2 := W.fldO h1 h2
    have st2 := Stp.fldO tb1 W h1 h2
    have tk2 : Tk K H H2 := (Tk.same s1).trans (st2.keep.tk W)
    have hg : gB (namesOf cs).length ≤ 255 := gB_mono (show (namesOf cs).length ≤ 7 by omega)
    refine ⟨_, rfl, x, dx, _, rfl, W2.ins, wf_no _ _ _ _ _ _ (by decide +kernel), _, rfl, af, _, 1, _, rfl, rfl, tk2 _ _ haf, atI_nat (j := 1) rfl, ?_⟩
    refine ⟨x, dx, l, d, cv, 0, 0, 0, m, [], cs, rfl, W2, st2.tabs, dpTk tk2 _ _ (nl_dS cs) d2, wf, l12, hn, .nil, by omega, by simp; omega, fun H3 rows r aft hr3 hcs hlast => ?_⟩
    obtain ⟨fr3, ag3, W3, l3⟩ := aft.walk
    obtain ⟨vs, hl3, hv3⟩ := W3.lst
    have hlen := aft.len
    rw [List.length_nil, Nat.zero_add] at hlen
    have hlast' : r + 1 = rows.length := hlast.elim id fun e => by rw [e] at hr3; exact absurd hr3 (Nat.not_lt_zero _)
    refine ⟨_, rfl, x, C, dx, _, _, rfl, W3.ins, WT'.cl, WT'.n2, wf_laid _ _ _ _ _ _, l, vs, rfl, .inl ⟨SqL.of hl3, fun q hq => ?_⟩⟩
    refine kk _ rows (.ref q) (fun b o e ht => ?_) (tabs_same aft.stp.tabs (same_upd hq)) (dp_new hq hv3) aft.good (fun e => by rw [e] at hr3; exact absurd hr3 (Nat.not_lt_zero _)) (by rw [← hlast', Nat.add_sub_cancel]; exact hcs) (by omega)
    exact same_upd hq _ _ ((st2.trans aft.stp).keep b o (s1 _ _ e) (ne_of_none e nx) (ne_of_none e hl0) (ne_of_none e hd0) ht)
/-! ### counted -/
def spCounted (K : PySem.W.Frag) (T : List (Addr × Str)) : Sp := fun vs H Q _ => ∃ (v : V) (m : Int) (ns : List Str) (cs : Cs), vs = [v, .int m] ∧ Dp K H v (dF ns cs) ∧ WfS cs ∧ cs.length ≤ 12 ∧ (namesOf cs).length < 8 ∧ ns.length ≤ 1000 ∧ LamX.Tabs T H ∧ 255 ≤ m ∧
  ∀ H', LamX.ExtN H H' → LamX.Tabs T H' → Q (.int (mods cs * 2 ^ shownW ns cs : Nat)) H'
abbrev nCounted : List Str := ["form", "most", "names", "clauses"]
theorem scCounted : FnScope nCounted ["form", "most"] (defScope sCounted) := ⟨rfl, rfl, rfl, by decide +kernel, rfl, by decide +kernel, by decide +kernel⟩
theorem kw_trail (F : FunD K "trail_of" "trail_of" (defArgs sTrailOf) (defBody sTrailOf) (defScope sTrailOf) [] [("most", .int 4000)] f fd) : KBn K fd ["form", "most"] 1 ["most"] (fun us ws => us ++ ws) (fun us ws => us ++ ws) := by
  obtain ⟨oc, od, dV, kV, doc, pm, an, cdv, ct, osl, rfl, lk, hcd, hD, hK⟩ := F.ex
  rcases hD with ⟨_, rfl⟩ | ⟨e, _⟩
  · exact ⟨fun s us ws _ l1 l2 => match us, ws, l1, l2 with
      | [_], [_], _, _ => .of_eq rfl, fun r1 r2 => r1.append r2⟩
  · exact absurd rfl e
theorem ok_counted (M : PlainLaw) (B : Blt mg) (F1 : FunD K "trail_of" "trail_of" (defArgs sTrailOf) (defBody sTrailOf) (defScope sTrailOf) [] [("most", .int 4000)] f1 fd1) (hg1 : mg "trail_of" = some (.ref f1)) (G1 : FnOk P w K mg base CX0 30 f1 fd1 ["form", "most"] (spTrailOf K T))
    (G2 : FnOk P w K mg base CX0 2 f2 fd2 ["names", "clauses", "count"] (spShownBy K)) (D2 : Df K mg "shown_by" sShownBy ["names", "clauses", "count"] f2 fd2) {dvs : List V} {kws : List (Str × V)}
    (F : FunD K "counted" "counted" (defArgs sCounted) (defBody sCounted) (defScope sCounted) dvs kws f fd) : FnOk P w K mg base CX0 31 f fd ["form", "most"] (spCounted K T) := by
  refine FunD.okN F scCounted (fun vs H Q E h => ?_) (fun cdv A outer s H vs Q E hr h => ?_)
  · obtain ⟨v, m, ns, cs, rfl, _⟩ := h
    rfl
  · obtain ⟨v, m, ns, cs, rfl, dv, wf, l12, hn, ln, tb, hm, kk⟩ := h
    refine ⟨_, pss_cons (ps_asg (pv 0) (pg_tup rfl (pgs_cons (pg_name (i := 2) scCounted.nd rfl (Or.inl rfl)) (pgs_cons (pg_name (i := 3) scCounted.nd rfl (Or.inl rfl)) pgs_nil))))
      (pss_one (ps_ret (pe_call G2 (hr.mono (by decide)) rfl D2.mg D2.fn.kp D2.bd .nil pass0 (pa_cons (pv 2) (pa_cons (pv 3) (pa_cons (pe_ix ix_tup (pe_ix ix_tup (pe_callN G1 hr rfl hg1 F1.kp (kw_trail F1) pass0 (pa_cons (pv 0) pa_nil) (pk_cons (pv 1) pk_nil)) (pe_un un_neg pe_int) (fun _ _ => rfl)) pe_int (fun _ _ => rfl)) pa_nil)))))), ?_⟩
    have dv0 := dv
    obtain ⟨af, nv, cv, rfl, haf, d1, d2⟩ := dp_form dv
    refine ⟨_, rfl, af, _, rfl, haf, rfl, _, _, rfl, _, _, rfl, rfl, ?_⟩
    refine ⟨_, rfl, _, rfl, _, rfl, _, rfl, rfl, rfl, .ref af, m, ns, cs, rfl, dv0, wf, l12, hn, tb, hm, fun H1 rows y eN tb1 dy good ne hcs hlen => ?_⟩
    obtain ⟨at', ys, rfl, hat, dy⟩ := dp_tup dy
    have lys : ys.length = rows.length := by have := dpLen dy; simpa using this
    have rpos : 0 < rows.length := List.length_pos_iff.mpr ne
    have hy : ys.getD (ys.length - 1) .non = ys[ys.length - 1] := by rw [List.getD_eq_getElem?_getD, at_ix (by omega)]; rfl
    have hyn : ys ≠ [] := fun e => by rw [e] at lys; simp at lys; omega
    obtain ⟨_, dl⟩ := dp_at (enc := dRow) (i := ys.length - 1) default dy (at_ix (by omega))
    have el : (rows.getD (ys.length - 1) default) = rowAt rows (rows.length - 1) := by rw [lys]; rfl
    rw [el] at dl
    obtain ⟨ar, u, z, hz, har, du, dz⟩ := dp_row dl
    have hlast : atI ys (-1) = some (V.ref ar) := by rw [atI_end hyn, hy, hz]
    have hmem := rowAt_mem (show rows.length - 1 < rows.length by omega)
    have hsem := good.sem _ hmem
    rw [hcs] at hsem
    refine ⟨1, rfl, at', _, _, _, rfl, rfl, hat, hlast, ar, _, 1, _, rfl, rfl, har, atI_nat (j := 1) rfl, ?_⟩
    refine ⟨_, _, ns, cs, _, rfl, dpTk (tk_ext2 eN) _ _ (nl_dN ns) d1, dpTk (tk_ext2 eN) _ _ (nl_dS cs) d2, ⟨l12, fun c hc => (wf.all c hc).len⟩, ln, (good.rows M).cnt _ hmem, fun H2 s2 => ?_⟩
    rw [hsem]
    exact kk _ (eN.trans (extN_same s2)) (tabs_same tb1 s2)
end
end Wc
set_option maxRecDepth 100000
set_option maxHeartbeats 8000000
/-! W39: a Counter: __init__, ask. -/
namespace Wc
open PySem PySem.Spec PyProof.Rows L2
open PySem.W (dataLt alike)
section
variable {P : Program} {w : World} {K : PySem.W.Frag} {mg : Str → Option Value} {base : Heap} {f f1 f2 f3 fR C C2 : Addr} {fd fd1 fd2 fd3 fdR : FuncData} {T : List (Addr × Str)}
structure CT (K : PySem.W.Frag) (C : Addr) : Prop where
  cl : Cls K C
  n : NoAttr K C "walker"
abbrev cf (p : Addr) : List (Str × V) := [("walker", .ref p)]
theorem cf_no {p : Addr} {m : Str} (h : (m == "walker") = false) : (cf p).lookup m = none := (lk_past h).trans rfl
theorem cf_not_wf {p l d : Addr} {dp fr ag lim : Int} : cf p ≠ wf l d dp fr ag lim := fun e => by
  have := congrArg List.length e
  exact absurd this (by show ¬ (1 = 7); decide)
def spCInit (P : Program) (w : World) (K : PySem.W.Frag) (C C2 : Addr) : Sp := fun vs H Q _ => ∃ (q dx2 : Addr), vs = [.ref q] ∧ H q = some (.ins C2 dx2 []) ∧ ∀ H' p dx l d, H' q = some (.ins C2 dx2 (cf p)) → Wlk P w K C p dx l d H' [] 0 0 0 0 → H p = none → H l = none → H d = none → (∀ b o, H b = some o → b ≠ q → H' b = some o) → Q .non H'
theorem scCInit : FnScope ["self"] ["self"] (defScope sCInit) := ⟨rfl, rfl, rfl, by decide +kernel, rfl, by decide +kernel, by decide +kernel⟩
theorem ok_cinit {ds1 : List Value} (CT' : CT K C2) (hgC : mg "Walker" = some (.ref C)) (MK : Mk K C f1) (G1 : FnOk P w K mg base CX0 1 f1 fd1 ["self", "shown"] (spWInit P w K C)) (b1 : Binds K fd1 ["self", "shown"] ds1) (v1 : Vals [V.non] ds1)
    (F : Fun K "__init__" "Counter.__init__" sCInit f fd) : FnOk P w K mg base CX0 3 f fd ["self"] (spCInit P w K C C2) := by
  refine F.ok scCInit (fun vs H Q E h => ?_) (fun cdv A outer s H vs Q E hr h => ?_)
  · obtain ⟨q, dx2, rfl, _⟩ := h
    rfl
  · obtain ⟨q, dx2, rfl, hq, kk⟩ := h
    refine ⟨_, pss_one (ps_fld (pv 0) (pe_make0 MK G1 hr rfl hgC b1 v1 pass0) rfl), ?_⟩
    intro x dx nx ndx nex
    have nqx : q ≠ x := ne_of_none hq nx
    have nqd : q ≠ dx := ne_of_none hq ndx
    have s0 : Same H (upd (upd H dx (.own x)) x (.ins C dx [])) := fun b o e => by
      rw [upd_ne (ne_of_none e nx), upd_ne (ne_of_none e ndx)]
      exact e
    refine ⟨x, dx, rfl, upd_same, fun H1 l d W hl hd keep => ⟨rfl, ?_⟩⟩
    have s1 : Same H H1 := fun b o e => keep b o (s0 b o e) (ne_of_none e nx)
    have hl0 : H l = none := by
      cases z : H l with
      | none => rfl
      | some o => rw [s0 _ _ z] at hl; cases hl
    have hd0 : H d = none := by
      cases z : H d with
      | none => rfl
      | some o => rw [s0 _ _ z] at hd; cases hd
    have hq1 := s1 _ _ hq
    refine ⟨_, rfl, q, C2, dx2, [], rfl, hq1, CT'.cl, CT'.n, (by show 0 < 1000; decide), ?_⟩
    refine kk _ x dx l d upd_same (W.move (tk_ins hq1) (upd_ne nqx.symm) (upd_ne fun z => by rw [z, hq] at hl0; cases hl0) (upd_ne fun z => by rw [z, hq] at hd0; cases hd0)) nx hl0 hd0 fun b o e n => ?_
    rw [upd_ne n]
    exact s1 b o e
/-! ### ask -/
def spAsk (P : Program) (w : World) (K : PySem.W.Frag) (C C2 : Addr) (T : List (Addr × Str)) : Sp := fun vs H Q _ => ∃ (q dx2 p dx l d : Addr) (v : V) (m dp fr ag lim : Int) (rows : List Row) (ns : List Str) (cs : Cs), vs = [.ref q, v, .int m] ∧ H q = some (.ins C2 dx2 (cf p)) ∧ Wlk P w K C p dx l d H rows dp fr ag lim ∧ Good rows ∧
  Dp K H v (dF ns cs) ∧ WfS cs ∧ cs.length ≤ 12 ∧ (namesOf cs).length < 8 ∧ ns.length ≤ 1000 ∧ LamX.Tabs T H ∧ 255 ≤ m ∧ rows.length + 255 ≤ 60000 ∧
  ∀ H' rows' dp' fr' ag' lim' y z1 z2, Wlk P w K C p dx l d H' rows' dp' fr' ag' lim' → Good rows' → rows'.length ≤ rows.length + 255 → Stp T p l d H H' → SqT K H' y [.int (mods cs * 2 ^ shownW ns cs : Nat), z1, z2] → Q (.ref y) H'
abbrev nAsk : List Str := ["self", "form", "most", "names", "clauses", "r", "count"]
theorem scAsk : FnScope nAsk ["self", "form", "most"] (defScope sAsk) := ⟨rfl, rfl, rfl, by decide +kernel, rfl, by decide +kernel, by decide +kernel⟩
theorem ok_ask {dvs : List V} {kws : List (Str × V)} (M : PlainLaw) (WT' : WT K C) (CT' : CT K C2) (G1 : FnOk P w K mg base CX0 1 f1 fd1 ["self", "most"] (spBegin P w K C)) (m1 : Meth K C "begin" f1) (b1 : Binds K fd1 ["self", "most"] []) (GR : FnOk P w K mg base CX0 29 fR fdR ["self", "clauses"] (spRowOf P w K C T 8)) (mR : Meth K C "row_of" fR) (bR : Binds K fdR ["self", "clauses"] [])
    (G2 : FnOk P w K mg base CX0 2 f2 fd2 ["names", "clauses", "count"] (spShownBy K)) (D2 : Df K mg "shown_by" sShownBy ["names", "clauses", "count"] f2 fd2)
    (F : FunD K "ask" "Counter.ask" (defArgs sAsk) (defBody sAsk) (defScope sAsk) dvs kws f fd) : FnOk P w K mg base CX0 30 f fd ["self", "form", "most"] (spAsk P w K C C2 T) := by
  refine FunD.okN F scAsk (fun vs H Q E h => ?_) (fun cdv A outer s H vs Q E hr h => ?_)
  · obtain ⟨q, dx2, p, dx, l, d, v, m, dp, fr, ag, lim, rows, ns, cs, rfl, _⟩ := h
    rfl
  · obtain ⟨q, dx2, p, dx, l, d, v, m, dp, fr, ag, lim, rows, ns, cs, rfl, hq, W, good, dv, wf', l12, hn, ln, tb, hm, hrl, kk⟩ := h
    refine ⟨_, pss_cons (ps_asg (pv 1) (pg_tup rfl (pgs_cons (pg_name (i := 3) scAsk.nd rfl (Or.inl rfl)) (pgs_cons (pg_name (i := 4) scAsk.nd rfl (Or.inl rfl)) pgs_nil))))
      (pss_cons (ps_expr (pe_meth (pe_fld (pv 0) rfl) WT'.cl m1 G1 (hr.mono (by decide)) b1 .nil pass0 (pa_cons (pv 2) pa_nil)))
      (pss_cons (ps_set (i := 5) scAsk.nd rfl (Or.inl rfl) (pe_meth (pe_fld (pv 0) rfl) WT'.cl mR GR hr bR .nil pass0 (pa_cons (pv 4) pa_nil)))
      (pss_cons (ps_set (i := 6) scAsk.nd rfl (Or.inl rfl) (pe_call G2 (hr.mono (by decide)) rfl D2.mg D2.fn.kp D2.bd .nil pass0 (pa_cons (pv 3) (pa_cons (pv 4) (pa_cons (pe_ix ix_tup (pe_ix ix_list (pe_fld (pe_fld (pv 0) rfl) rfl) (pv 5) (fun _ _ => rfl)) pe_int (fun _ _ => rfl)) pa_nil)))))
      (pss_one (ps_ret (pe_tup (pa_cons (pv 6) (pa_cons (pe_fld (pe_fld (pv 0) rfl) rfl) (pa_cons (pe_fld (pe_fld (pv 0) rfl) rfl) pa_nil))))))))), ?_⟩
    obtain ⟨af, nv, cv, rfl, haf, d1, d2⟩ := dp_form dv
    have nqp : q ≠ p := fun z => by
      rw [z, W.ins] at hq
      cases hq
    obtain ⟨vs0, hl0, _⟩ := W.lst
    obtain ⟨xs0, hd0, _⟩ := W.dct
    have nql : q ≠ l := fun z => by rw [z, hl0] at hq; cases hq
    have nqd : q ≠ d := fun z => by rw [z, hd0] at hq; cases hq
    have kq : ∀ {H'}, Stp T p l d H H' → H' q = some (.ins C2 dx2 (cf p)) := fun st => st.keep q _ hq nqp nql nqd fun ps z => by cases z
    refine ⟨_, rfl, af, _, rfl, haf, rfl, _, _, rfl, _, _, rfl, rfl, ?_⟩
    refine ⟨_, rfl, q, C2, dx2, _, _, rfl, hq, CT'.cl, CT'.n, lk_here, p, dx, _, rfl, W.ins, wf_no _ _ _ _ _ _ (by decide +kernel), _, rfl, p, dx, l, d, rows, dp, fr, ag, lim, m, rfl, W, fun H2 h1 h2 => ?_⟩
    have W2 := W.fldO h1 h2
    have st2 := Stp.fldO tb W h1 h2
    have tk2 : Tk K H H2 := st2.keep.tk W
    have hg : gB (namesOf cs).length ≤ 255 := gB_mono (show (namesOf cs).length ≤ 7 by omega)
    refine ⟨_, rfl, q, C2, dx2, _, _, rfl, kq st2, CT'.cl, CT'.n, lk_here, p, dx, _, rfl, W2.ins, wf_no _ _ _ _ _ _ (by decide +kernel), _, rfl, ?_⟩
    refine ⟨p, dx, l, d, cv, dp, 0, 0, m, rows, cs, rfl, W2, st2.tabs, dpTk tk2 _ _ (nl_dS cs) d2, wf', l12, hn, good, by omega, by omega, fun H3 rows3 r aft hr3 hcs _ => ?_⟩
    obtain ⟨fr3, ag3, W3, l3⟩ := aft.walk
    obtain ⟨vs, hl3, hv3⟩ := W3.lst
    have hlen := aft.len
    have st3 := st2.trans aft.stp
    have tk3 : Tk K H H3 := tk2.trans (aft.stp.keep.tk W2)
    have lv : vs.length = rows3.length := by have := dpLen hv3; simpa using this
    have hvr : vs[r]? = some vs[r] := at_ix (by omega)
    obtain ⟨_, dr⟩ := dp_at (enc := dRow) default hv3 hvr
    obtain ⟨ar, u, z, hz, har, du, dz⟩ := dp_row dr
    rw [hz] at hvr
    have hmem := rowAt_mem hr3
    have hsem := aft.good.sem _ hmem
    have hcnt := (aft.good.rows M).cnt _ hmem
    rw [hcs] at hsem
    refine ⟨_, rfl, _, rfl, _, rfl, q, C2, dx2, _, _, rfl, kq st3, CT'.cl, CT'.n, lk_here, p, C, dx, _, _, rfl, W3.ins, WT'.cl, WT'.n2, wf_laid _ _ _ _ _ _, _, rfl, l, vs, _, _, rfl, rfl, SqL.of hl3, atI_nat hvr, ar, _, 1, _, rfl, rfl, har, atI_nat (j := 1) rfl, ?_⟩
    refine ⟨_, _, ns, cs, _, rfl, dpTk tk3 _ _ (nl_dN ns) d1, dpTk tk3 _ _ (nl_dS cs) d2, ⟨l12, fun c hc => (wf'.all c hc).len⟩, ln, hcnt, fun H4 s4 => ?_⟩
    have st4 := st3.trans (.same st3.tabs s4)
    have W4 := W3.same s4
    refine ⟨_, rfl, _, rfl, q, C2, dx2, _, _, rfl, kq st4, CT'.cl, CT'.n, lk_here, p, C, dx, _, _, rfl, W4.ins, WT'.cl, WT'.n5, wf_fresh _ _ _ _ _ _, _, rfl, q, C2, dx2, _, _, rfl, kq st4, CT'.cl, CT'.n, lk_here, p, C, dx, _, _, rfl, W4.ins, WT'.cl, WT'.n6, wf_again _ _ _ _ _ _, Nat.succ_le_succ (Nat.succ_le_succ (Nat.succ_le_succ (Nat.zero_le _))), fun y hy => ?_⟩
    refine kk _ rows3 dp fr3 ag3 m y (.int fr3) (.int ag3) (W4.same (same_upd hy)) aft.good (by omega) (st4.trans (.same st4.tabs (same_upd hy))) ?_
    rw [← hsem]
    exact SqT.of upd_same
end
end Wc
set_option maxRecDepth 100000
set_option maxHeartbeats 400000
/-! W40: the law's feed and draws. -/
namespace Wc
open PySem PySem.Spec PyProof.Rows L2
open PySem.W (dataLt alike)
/-- all but one object stay -/
def But (f : Addr) (H H' : Hp) : Prop := ∀ b o, H b = some o → b ≠ f → H' b = some o
theorem But.refl {f : Addr} (H : Hp) : But f H H := fun _ _ h _ => h
theorem But.trans {f : Addr} {H H1 H2 : Hp} (a : But f H H1) (b : But f H1 H2) : But f H H2 := fun c o h n => b c o (a c o h n) n
theorem But.same {f : Addr} {H H' : Hp} (e : Same H H') : But f H H' := fun b o h _ => e b o h
theorem But.upd {f : Addr} {H : Hp} {u : HO} : But f H (upd H f u) := fun b o h n => by rw [upd_ne n]; exact h
/-- the feed: the cells, the next one, what is left, how many draws were made -/
structure FeedAt (H : Hp) (fe c : Addr) (xs : List Int) (t : Nat) : Prop where
  ex : ∃ at' rest : Nat, H fe = some (.lst [.ref c, .int (at' : Nat), .int (rest : Nat), .int (t : Nat)])
  cells : H c = some (.lst (xs.map V.int))
theorem FeedAt.ne {H : Hp} {fe c : Addr} {xs : List Int} {t : Nat} (h : FeedAt H fe c xs t) : c ≠ fe := fun e => by
  obtain ⟨a, r, h1⟩ := h.ex
  have h2 := h.cells
  rw [e, h1] at h2
  cases xs with
  | nil => cases h2
  | cons x xs => cases h2
theorem FeedAt.but {H H' : Hp} {f fe c : Addr} {xs : List Int} {t : Nat} (h : FeedAt H fe c xs t) (b : But f H H') (n1 : fe ≠ f) (n2 : c ≠ f) : FeedAt H' fe c xs t := by
  obtain ⟨a, r, h1⟩ := h.ex
  exact ⟨⟨a, r, b _ _ h1 n1⟩, b _ _ h.cells n2⟩
theorem FeedAt.same {H H' : Hp} {fe c : Addr} {xs : List Int} {t : Nat} (h : FeedAt H fe c xs t) (e : Same H H') : FeedAt H' fe c xs t := by
  obtain ⟨a, r, h1⟩ := h.ex
  exact ⟨⟨a, r, e _ _ h1⟩, e _ _ h.cells⟩
section
variable {P : Program} {w : World} {K : PySem.W.Frag} {mg : Str → Option Value} {base : Heap} {f f1 f2 f3 : Addr} {fd fd1 fd2 fd3 : FuncData}
/-! ### weaker readings -/
theorem PE.imp {X : Cx} {e : Expr} {t t' : TE} (h : PE X e t) (i : ∀ σ H Q, t' σ H Q → t σ H Q) : PE X e t' := ⟨fun pins s σ H Q I q => h.run pins s σ H Q I (i σ H Q q)⟩
theorem PT.imp {X : Cx} {e : Expr} {t t' : TT} (h : PT X e t) (i : ∀ σ H Q, t' σ H Q → t σ H Q) : PT X e t' := ⟨fun pins s σ H Q I q => h.run pins s σ H Q I (i σ H Q q)⟩
/-- the cell that is next, any -/
def tCell : TE := fun σ H Q => ∃ (c : Addr) (xs : List Int) (a : Nat), σ[2]? = some (some (.ref c)) ∧ σ[3]? = some (some (.int (a : Nat))) ∧ H c = some (.lst (xs.map V.int)) ∧ ∀ cell : Int, Q (.int cell) H
/-- whether it is a great one -/
def tGreat : TT := fun σ H Q => ∃ (c : Addr) (xs : List Int) (a : Nat) (cell : Int), σ[2]? = some (some (.ref c)) ∧ σ[3]? = some (some (.int (a : Nat))) ∧ σ[6]? = some (some (.int cell)) ∧ H c = some (.lst (xs.map V.int)) ∧ ∀ b : Bool, (b = true → 0 ≤ cell) → Q b H
/-- a mixing of the cell, of what was mixed -/
def tMix (i : Nat) : TE := fun σ H Q => ∃ (x : Int) (t : Nat), σ[i]? = some (some (.int x)) ∧ σ[5]? = some (some (.int (t : Nat))) ∧ t < 2 ^ 20 ∧ (i = 7 → 0 ≤ x ∧ x < 2147483647) ∧ ∀ z : Int, 0 ≤ z → z < 2147483647 → Q (.int z) H
/-- the end -/
def tLast : TE := fun σ H Q => ∃ (x : Int) (m : Nat), σ[7]? = some (some (.int x)) ∧ σ[1]? = some (some (.int (m : Nat))) ∧ 1 ≤ m ∧ ∀ r : Nat, r < m → Q (.int (r : Nat)) H
def spDraw : Sp := fun vs H Q _ => ∃ (fe c : Addr) (xs : List Int) (t many : Nat), vs = [.ref fe, .int (many : Nat)] ∧ FeedAt H fe c xs t ∧ xs.length ≤ 63 ∧ 1 ≤ many ∧ many < 1000 ∧ t < 2 ^ 20 ∧ ∀ H' (r : Nat), r < many → FeedAt H' fe c xs (t + 1) → But fe H H' → Q (.int (r : Nat)) H'
abbrev nDraw : List Str := ["_law_feed_here", "_law_many", "_law_cells", "_law_at", "_law_rest", "_law_turn", "_law_cell", "_law_mixed"]
theorem scDraw : FnScope nDraw ["_law_feed_here", "_law_many"] (defScope sLDraw) := ⟨rfl, rfl, rfl, by decide +kernel, rfl, by decide +kernel, by decide +kernel⟩
theorem mod_nat {i : Int} {m : Nat} (h : 1 ≤ m) : ∃ r : Nat, i % (m : Int) = (r : Int) ∧ r < m := by
  have h1 : (0 : Int) < m := by omega
  have h2 := Int.emod_nonneg i (show (m : Int) ≠ 0 by omega)
  have h3 := Int.emod_lt_of_pos i h1
  exact ⟨(i % (m : Int)).toNat, by omega, by omega⟩
theorem ok_draw (B : Blt mg) (D : Df K mg "_law_draw" sLDraw ["_law_feed_here", "_law_many"] f fd) : FnOk P w K mg base CX0 1 f fd ["_law_feed_here", "_law_many"] spDraw := by
  refine D.fn.ok scDraw (fun vs H Q E h => ?_) (fun cdv A outer s H vs Q E hr h => ?_)
  · obtain ⟨fe, c, xs, t, many, rfl, _⟩ := h
    rfl
  · obtain ⟨fe, c, xs, t, many, rfl, F, lx, hm1, hm2, ht, kk⟩ := h
    refine ⟨_, pss_cons (ps_asg (pv 0) (pg_unl rfl (pgs_cons (pg_name (i := 2) scDraw.nd rfl (Or.inl rfl)) (pgs_cons (pg_name (i := 3) scDraw.nd rfl (Or.inl rfl)) (pgs_cons (pg_name (i := 4) scDraw.nd rfl (Or.inl rfl)) (pgs_cons (pg_name (i := 5) scDraw.nd rfl (Or.inl rfl)) pgs_nil))))))
      (pss_cons (ps_asg (pe_op op_add (pv 5) pe_int) (pg_sub (pv 0) pe_int set_list))
      (pss_cons (ps_if (pt_cmpR op_gt (pv 4) pe_int (nomark _)) (pss_cons (ps_asg (pe_op op_fdiv (pv 4) (pv 1)) (pg_sub (pv 0) pe_int set_list)) (pss_one (ps_ret (pe_op op_mod (pv 4) (pv 1))))) pss_nil)
      (pss_cons (ps_asg (pe_op op_add (pv 3) pe_int) (pg_sub (pv 0) pe_int set_list))
      (pss_cons (ps_set (i := 6) scDraw.nd rfl (Or.inl rfl) (PE.imp (t' := tCell) (pe_ifExp (pt_cmpR op_gt (pe_callB call_len_seq (by rfl) B.len PySem.boot_len (pa_cons (pv 2) pa_nil)) pe_int (nomark _)) (pe_ix ix_list (pv 2) (pe_op op_mod (pv 3) (pe_callB call_len_seq (by rfl) B.len PySem.boot_len (pa_cons (pv 2) pa_nil))) (fun _ _ => rfl)) pe_int) ?cell))
      (pss_cons (ps_if (PT.imp (t' := tGreat) (PW.pt (pw_and (pt_cmpR op_ge (pv 6) (pe_op op_pow pe_int pe_int) (nomark _)) (pw_and1 (pt_cmpR op_lt (pv 3) (pe_callB call_len_seq (by rfl) B.len PySem.boot_len (pa_cons (pv 2) pa_nil)) (nomark _))))) ?great) (pss_cons (ps_asg (pe_op op_fdiv (pv 6) (pv 1)) (pg_sub (pv 0) pe_int set_list)) (pss_one (ps_ret (pe_op op_mod (pv 6) (pv 1))))) pss_nil)
      (pss_cons (ps_set (i := 7) scDraw.nd rfl (Or.inl rfl) (PE.imp (t' := tMix 6) (pe_op op_mod (pe_op op_pow (pe_op op_add (pe_op op_add (pe_op op_mod (pv 6) pe_int) (pe_op op_mul pe_int (pv 5))) pe_int) pe_int) pe_int) ?mix6))
      (pss_cons (ps_set (i := 7) scDraw.nd rfl (Or.inl rfl) (PE.imp (t' := tMix 7) (pe_op op_mod (pe_op op_pow (pe_op op_add (pe_op op_add (pv 7) (pe_op op_mul pe_int (pv 5))) pe_int) pe_int) pe_int) ?mix7))
      (pss_one (ps_ret (PE.imp (t' := tLast) (pe_op op_mod (pe_op op_fdiv (pv 7) pe_int) (pv 1)) ?last)))))))))), ?_⟩
    case cell =>
      rintro σ H Q ⟨c, xs, a, h2, h3, hc, q⟩
      refine ⟨_, h2, c, _, rfl, .inl (SqL.of hc), _, _, rfl, rfl, _, rfl, ?_⟩
      by_cases hx : 0 < xs.length
      · refine ifT (decide_eq_true (by rw [List.length_map]; omega)) ⟨_, h2, _, h3, _, h2, c, _, rfl, .inl (SqL.of hc), _, _, rfl, rfl, by rw [List.length_map]; omega, ?_⟩
        obtain ⟨r, er, hr⟩ := mod_nat (i := (a : Int)) (m := (xs.map V.int).length) (by rw [List.length_map]; omega)
        rw [List.length_map] at hr
        show rIxL _ _ (.int ((a : Int) % ((xs.map V.int).length : Nat))) _ _
        rw [er]
        exact ⟨c, _, _, .int xs[r], rfl, rfl, SqL.of hc, atI_nat (by rw [List.getElem?_map, at_ix hr]; rfl), q _⟩
      · exact ifF (decide_eq_false (by rw [List.length_map]; omega)) (q 11)
    case great =>
      rintro σ H Q ⟨c, xs, a, cell, h2, h3, h6, hc, q⟩
      refine ⟨_, h6, _, _, rfl, rfl, ⟨by decide, by decide, by decide⟩, _, _, rfl, rfl, _, rfl, ?_⟩
      by_cases hb : (10 : Int) ^ 18 ≤ cell
      · refine ifT (decide_eq_true hb) ⟨_, h3, _, h2, c, _, rfl, .inl (SqL.of hc), _, _, rfl, rfl, _, rfl, ?_⟩
        exact q _ fun _ => by omega
      · exact ifF (decide_eq_false hb) (q false fun e => by cases e)
    case mix6 =>
      rintro σ H Q ⟨x, t, h6, h5, ht, _, q⟩
      refine ⟨_, h6, _, _, rfl, rfl, (by show (0 : Int) < 2147483629; decide), _, h5, _, _, rfl, rfl, .inl ⟨by decide, by decide⟩, _, _, rfl, rfl, _, _, rfl, rfl, _, _, rfl, rfl, ⟨by decide, by decide, ?_⟩, _, _, rfl, rfl, (by show (0 : Int) < 2147483647; decide), ?_⟩
      · show (x % 2147483629 + 6151 * (t : Int) + 389).natAbs < 2 ^ 64
        omega
      · exact q _ (Int.emod_nonneg _ (by decide)) (Int.emod_lt_of_pos _ (by decide))
    case mix7 =>
      rintro σ H Q ⟨x, t, h6, h5, ht, hx, q⟩
      have hx := hx rfl
      refine ⟨_, h6, _, h5, _, _, rfl, rfl, .inl ⟨by decide, by decide⟩, _, _, rfl, rfl, _, _, rfl, rfl, _, _, rfl, rfl, ⟨by decide, by decide, ?_⟩, _, _, rfl, rfl, (by show (0 : Int) < 2147483587; decide), ?_⟩
      · show (x + 24593 * (t : Int) + 53).natAbs < 2 ^ 64
        omega
      · exact q _ (Int.emod_nonneg _ (by decide)) (Int.lt_trans (Int.emod_lt_of_pos _ (by decide)) (by decide))
    case last =>
      rintro σ H Q ⟨x, m, h7, h1, hm, q⟩
      obtain ⟨r, er, hlt⟩ := mod_nat (i := x / 64) hm
      refine ⟨_, h7, _, _, rfl, rfl, ⟨by decide, by decide⟩, _, h1, _, _, rfl, rfl, by omega, ?_⟩
      show Q (.int (x / 64 % (m : Int))) H
      rw [er]
      exact q r hlt
    obtain ⟨at', rest, hf⟩ := F.ex
    have hc := F.cells
    have ncf := F.ne
    have b0 : (0 : Int) < many := by omega
    refine ⟨_, rfl, fe, _, rfl, SqL.of hf, rfl, _, _, rfl, _, _, rfl, _, _, rfl, _, _, rfl, rfl, ?_⟩
    refine ⟨_, rfl, _, _, rfl, rfl, _, rfl, fe, _, _, 3, rfl, rfl, hf, rfl, ?_⟩
    have hf1 : (upd H fe (.lst ([V.ref c, .int (at' : Nat), .int (rest : Nat), .int (t : Nat)].set 3 (.int ((t : Int) + 1))))) fe = some (.lst [V.ref c, .int (at' : Nat), .int (rest : Nat), .int ((t + 1 : Nat) : Int)]) := upd_same
    have hc1 : (upd H fe (.lst ([V.ref c, .int (at' : Nat), .int (rest : Nat), .int (t : Nat)].set 3 (.int ((t : Int) + 1))))) c = some (.lst (xs.map V.int)) := by rw [upd_ne ncf]; exact hc
    have b1 : But fe H (upd H fe (.lst ([V.ref c, .int (at' : Nat), .int (rest : Nat), .int (t : Nat)].set 3 (.int ((t : Int) + 1))))) := .upd
    generalize upd H fe (.lst ([V.ref c, .int (at' : Nat), .int (rest : Nat), .int (t : Nat)].set 3 (.int ((t : Int) + 1)))) = H1 at hf1 hc1 b1
    refine ⟨_, rfl, _, _, rfl, rfl, _, rfl, ?_⟩
    by_cases hr0 : 0 < rest
    · refine ifT (decide_eq_true (by omega)) ?_
      obtain ⟨r, er, hlt⟩ := mod_nat (i := (rest : Int)) hm1
      refine ⟨_, rfl, _, rfl, _, _, rfl, rfl, ⟨b0, by omega⟩, _, rfl, fe, _, _, 2, rfl, rfl, hf1, rfl, ?_⟩
      refine ⟨_, rfl, _, rfl, _, _, rfl, rfl, b0, ?_⟩
      show Q (.int ((rest : Int) % (many : Int))) _
      rw [er]
      exact kk _ r hlt ⟨⟨at', rest / many, upd_same⟩, by rw [upd_ne ncf]; exact hc1⟩ (b1.trans .upd)
    · refine ifF (decide_eq_false (by omega)) ?_
      refine ⟨_, rfl, _, _, rfl, rfl, _, rfl, fe, _, _, 1, rfl, rfl, hf1, rfl, ?_⟩
      have hf2 : (upd H1 fe (.lst ([V.ref c, .int (at' : Nat), .int (rest : Nat), .int ((t + 1 : Nat) : Int)].set 1 (.int ((at' : Int) + 1))))) fe = some (.lst [V.ref c, .int ((at' + 1 : Nat) : Int), .int (rest : Nat), .int ((t + 1 : Nat) : Int)]) := upd_same
      have hc2 : (upd H1 fe (.lst ([V.ref c, .int (at' : Nat), .int (rest : Nat), .int ((t + 1 : Nat) : Int)].set 1 (.int ((at' : Int) + 1))))) c = some (.lst (xs.map V.int)) := by rw [upd_ne ncf]; exact hc1
      have b2 : But fe H (upd H1 fe (.lst ([V.ref c, .int (at' : Nat), .int (rest : Nat), .int ((t + 1 : Nat) : Int)].set 1 (.int ((at' : Int) + 1))))) := b1.trans .upd
      generalize upd H1 fe (.lst ([V.ref c, .int (at' : Nat), .int (rest : Nat), .int ((t + 1 : Nat) : Int)].set 1 (.int ((at' : Int) + 1)))) = H2 at hf2 hc2 b2
      refine ⟨c, xs, at', rfl, rfl, hc2, fun cell => ?_⟩
      refine ⟨c, xs, at', cell, rfl, rfl, rfl, hc2, fun b hb => ?_⟩
      cases b with
      | true =>
        have hcell := hb rfl
        refine ifT rfl ?_
        obtain ⟨r, er, hlt⟩ := mod_nat (i := cell) hm1
        have eq : cell / (many : Int) = ((cell / (many : Int)).toNat : Int) := (Int.toNat_of_nonneg (Int.ediv_nonneg hcell (by omega))).symm
        refine ⟨_, rfl, _, rfl, _, _, rfl, rfl, ⟨b0, by omega⟩, _, rfl, fe, _, _, 2, rfl, rfl, hf2, rfl, ?_⟩
        refine ⟨_, rfl, _, rfl, _, _, rfl, rfl, b0, ?_⟩
        show Q (.int (cell % (many : Int))) _
        rw [er]
        refine kk _ r hlt ⟨⟨at' + 1, (cell / (many : Int)).toNat, ?_⟩, by rw [upd_ne ncf]; exact hc2⟩ (b2.trans .upd)
        rw [upd_same]
        show some (HO.lst [V.ref c, .int ((at' + 1 : Nat) : Int), .int (cell / (many : Int)), .int ((t + 1 : Nat) : Int)]) = _
        rw [eq]
        rfl
      | false =>
        refine ifF rfl ?_
        refine ⟨cell, t, rfl, rfl, ht, fun e => (by cases e), fun m1 p1 p2 => ?_⟩
        refine ⟨m1, t, rfl, rfl, ht, fun _ => ⟨p1, p2⟩, fun m2 _ _ => ?_⟩
        exact ⟨m2, many, rfl, rfl, hm1, fun r hlt => kk _ r hlt ⟨⟨at' + 1, rest, hf2⟩, hc2⟩ b2⟩
end
end Wc
set_option maxRecDepth 100000
set_option maxHeartbeats 400000
/-! W41: _law_feed, _law_pool. -/
namespace Wc
open PySem PySem.Spec PyProof.Rows L2
open PySem.W (dataLt alike)
theorem map_erase {α β : Type} (g : α → β) : ∀ (xs : List α) (k : Nat), (xs.map g).eraseIdx k = (xs.eraseIdx k).map g
  | [], _ => rfl
  | x :: xs, 0 => rfl
  | x :: xs, k + 1 => by rw [List.map_cons, List.eraseIdx_cons_succ, List.eraseIdx_cons_succ, map_erase g xs k, List.map_cons]
theorem cutTo (xs : List V) (k : Nat) : cutV xs none (some (k : Int)) = xs.take k := by
  unfold cutV
  rw [HT.sIx_none, HT.sIx_nat, List.drop_zero, Nat.sub_zero]
  rcases Nat.le_total k xs.length with h | h
  · rw [Nat.min_eq_left h]
  · rw [Nat.min_eq_right h, List.take_length, List.take_of_length_le h]
section
variable {P : Program} {w : World} {K : PySem.W.Frag} {mg : Str → Option Value} {base : Heap} {f f1 f2 f3 : Addr} {fd fd1 fd2 fd3 : FuncData}
/-! ### the feed -/
def spFeed (K : PySem.W.Frag) : Sp := fun vs H Q _ => ∃ (a : Addr) (xs : List Int), vs = [.ref a] ∧ SqL K H a (xs.map V.int) ∧ ∀ H' fe c (ys : List Int), ys.length ≤ 63 → FeedAt H' fe c ys 0 → Same H H' → H fe = none → H c = none → Q (.ref fe) H'
theorem scFeed : FnScope ["_law_script"] ["_law_script"] (defScope sLFeed) := ⟨rfl, rfl, rfl, by decide +kernel, rfl, by decide +kernel, by decide +kernel⟩
theorem ok_feed (D : Df K mg "_law_feed" sLFeed ["_law_script"] f fd) : FnOk P w K mg base CX0 1 f fd ["_law_script"] (spFeed K) := by
  refine D.fn.ok scFeed (fun vs H Q E h => ?_) (fun cdv A outer s H vs Q E hr h => ?_)
  · obtain ⟨a, xs, rfl, _⟩ := h
    rfl
  · obtain ⟨a, xs, rfl, ha, kk⟩ := h
    refine ⟨_, pss_one (ps_ret (pe_lst (pa_cons (pe_slice sl_list (pv 0) po_none (po_some pe_int)) (pa_cons pe_int (pa_cons pe_int (pa_cons pe_int pa_nil)))))), ?_⟩
    refine ⟨_, rfl, 63, rfl, a, _, rfl, ha, fun c hc => ⟨Nat.succ_le_succ (Nat.succ_le_succ (Nat.succ_le_succ (Nat.succ_le_succ (Nat.zero_le _)))), fun fe hfe => ?_⟩⟩
    have e : cutV (xs.map V.int) none (some (63 : Int)) = (xs.take 63).map V.int := by
      rw [List.map_take]
      exact cutTo _ 63
    rw [e] at hfe ⊢
    have hc1 : upd H c (.lst ((xs.take 63).map V.int)) c = some (.lst ((xs.take 63).map V.int)) := upd_same
    refine kk _ fe c (xs.take 63) (by rw [List.length_take]; omega) ⟨⟨0, 0, upd_same⟩, by rw [upd_ne (ne_of_none hc1 hfe)]; exact hc1⟩ (same_put (same_upd hc) hfe) ?_ hc
    cases q : H fe with
    | none => rfl
    | some o => rw [same_upd hc _ _ q] at hfe; cases hfe
/-! ### the pool -/
def spPool : Sp := fun vs H Q _ => ∃ (fe c : Addr) (xs : List Int) (t many : Nat), vs = [.ref fe, .int (many : Nat)] ∧ FeedAt H fe c xs t ∧ xs.length ≤ 63 ∧ many ≤ 12 ∧ t + 12 < 2 ^ 20 ∧ ∀ H' pl (ns : List Str) (t' : Nat), H pl = none → H' pl = some (.lst (ns.map V.str)) → ns.length = many → ns.Sublist pool → t' ≤ t + 12 → FeedAt H' fe c xs t' → But fe H H' → Q (.ref pl) H'
abbrev nPool : List Str := ["_law_feed_here", "_law_many", "_law_pool_here", "_law_k"]
theorem scPool : FnScope nPool ["_law_feed_here", "_law_many"] (defScope sLPool) := ⟨rfl, rfl, rfl, by decide +kernel, rfl, by decide +kernel, by decide +kernel⟩
theorem ok_pool (B : Blt mg) (G1 : FnOk P w K mg base CX0 1 f1 fd1 ["_law_feed_here", "_law_many"] spDraw) (D1 : Df K mg "_law_draw" sLDraw ["_law_feed_here", "_law_many"] f1 fd1)
    (D : Df K mg "_law_pool" sLPool ["_law_feed_here", "_law_many"] f fd) : FnOk P w K mg base CX0 2 f fd ["_law_feed_here", "_law_many"] spPool := by
  refine D.fn.ok scPool (fun vs H Q E h => ?_) (fun cdv A outer s H vs Q E hr h => ?_)
  · obtain ⟨fe, c, xs, t, many, rfl, _⟩ := h
    rfl
  · obtain ⟨fe, c, xs, t, many, rfl, F, lx, hm, ht, kk⟩ := h
    refine ⟨_, pss_cons (ps_set (i := 2) scPool.nd rfl (Or.inl rfl) (pe_lst (pa_cons pe_str (pa_cons pe_str (pa_cons pe_str (pa_cons pe_str (pa_cons pe_str (pa_cons pe_str (pa_cons pe_str (pa_cons pe_str (pa_cons pe_str (pa_cons pe_str (pa_cons pe_str (pa_cons pe_str pa_nil))))))))))))))
      (pss_cons (ps_for PassesOwn.never rfl (pi_range1 (by rfl) B.rng (pa_cons (pe_op op_sub pe_int (pv 1)) pa_nil)) (pg_name (i := 3) scPool.nd rfl (Or.inl rfl))
        (pss_one (ps_expr (pe_bm PySem.F.plainAttrs_list PySem.F.slot_list_pop PySem.F.type_list_pop mt_popAt (pv 2) (pa_cons (pe_call G1 hr rfl D1.mg D1.fn.kp D1.bd .nil pass0 (pa_cons (pv 0) (pa_cons (pe_callB call_len_seq (by rfl) B.len PySem.boot_len (pa_cons (pv 2) pa_nil)) pa_nil))) pa_nil)))))
      (pss_one (ps_ret (pv 2)))), ?_⟩
    refine ⟨by show 12 ≤ sizeLine; decide, fun pl hpl => ?_⟩
    have s1 : Same H (upd H pl (.lst (pool.map V.str))) := same_upd hpl
    have hp1 : upd H pl (.lst (pool.map V.str)) pl = some (.lst (pool.map V.str)) := upd_same
    have npf : fe ≠ pl := by obtain ⟨a, r, h1⟩ := F.ex; exact ne_of_none h1 hpl
    have npc : c ≠ pl := ne_of_none F.cells hpl
    refine ⟨_, rfl, _, _, rfl, rfl, _, rfl, (by show -(2 ^ 62) ≤ (12 : Int) - (many : Int); omega), (by show (12 : Int) - (many : Int) < 2 ^ 62; omega), for_it (walk_range (lo := 0) (n := ((12 : Int) - (many : Nat)).toNat)) (fun i σ H' => ∃ (x3 : Option V) (ns : List Str) (t' : Nat), σ = [some (.ref fe), some (.int (many : Nat)), some (.ref pl), x3] ∧ H' pl = some (.lst (ns.map V.str)) ∧ ns.length = 12 - i ∧ ns.Sublist pool ∧ t' ≤ t + i ∧ FeedAt H' fe c xs t' ∧ But fe H H')
      ⟨none, pool, t, rfl, hp1, rfl, List.Sublist.refl _, Nat.le_refl _, F.same s1, .same s1⟩ (fun _ _ _ _ _ => trivial) ?_ ?_⟩
    · rintro i x _ H1 _ hi ⟨x3, ns, t', rfl, hp, hl, hs, ht', F1, b1⟩ ⟨rfl, rfl⟩
      have hi' : i < 12 := by omega
      refine ⟨_, rfl, .inl ⟨rfl, _, SqL.of hp⟩, _, rfl, _, rfl, pl, _, rfl, .inl (SqL.of hp), ?_⟩
      rw [List.length_map]
      refine ⟨fe, c, xs, t', ns.length, rfl, F1, lx, by omega, by omega, by omega, fun H2 r hr2 F2 b2 => ?_⟩
      have hp2 := b2 _ _ hp npf.symm
      refine ⟨pl, _, (r : Int), r, .str (ns[r]'hr2), rfl, rfl, hp2, by omega, by omega, (ixN_seq (ixN_at (by rw [List.length_map]; exact hr2))).1, by rw [List.getElem?_map, at_ix hr2]; rfl, ?_⟩
      have b3 : But fe H (upd H2 pl (.lst ((ns.map V.str).eraseIdx r))) := fun b o e n => by
        rw [upd_ne (ne_of_none e hpl)]
        exact (b1.trans b2) b o e n
      have eE : (ns.map V.str).eraseIdx r = (ns.eraseIdx r).map V.str := map_erase V.str ns r
      refine ⟨_, ns.eraseIdx r, t' + 1, rfl, by rw [upd_same, eE], by rw [List.length_eraseIdx_of_lt hr2]; omega, (List.eraseIdx_sublist ns r).trans hs, by omega, F2.but .upd npf npc, b3⟩
    · rintro σ H1 ⟨x3, ns, t', rfl, hp, hl, hs, ht', F1, b1⟩
      exact ⟨_, rfl, kk H1 pl ns t' hpl hp (by omega) hs (by omega) F1 b1⟩
end
end Wc
set_option maxRecDepth 100000
set_option maxHeartbeats 400000
/-! W42: _law_clause. -/
namespace Wc
open PySem PySem.Spec PyProof.Rows L2
open PySem.W (dataLt alike)
theorem perm_erase {α : Type} : ∀ (l : List α) (r : Nat) (h : r < l.length), (l[r] :: l.eraseIdx r).Perm l
  | x :: xs, 0, _ => List.Perm.refl _
  | x :: xs, r + 1, h => by
    have ih := perm_erase xs r (by simpa using h)
    exact (List.Perm.swap _ _ _).trans (ih.cons x)
section
variable {P : Program} {w : World} {K : PySem.W.Frag} {mg : Str → Option Value} {base : Heap} {f f1 f2 f3 : Addr} {fd fd1 fd2 fd3 : FuncData}
/-- literals of unlike names of some, sorted -/
structure ClOf (ns : List Str) (cl : Cl) : Prop where
  names : ∀ l ∈ cl, l.1 ∈ ns
  nodup : (cl.map (·.1)).Nodup
theorem But.tk {K : PySem.W.Frag} {f : Addr} {H H' : Hp} {xs : List V} (b : But f H H') (h : H f = some (.lst xs)) : Tk K H H' := fun a ys q => by
  rcases q with (q | ⟨o, q⟩) | q
  · exact .inl (.inl (b _ _ q fun z => by rw [z, h] at q; cases q))
  · exact .inl (.inr ⟨o, b _ _ q fun z => by rw [z, h] at q; cases q⟩)
  · exact .inr q
theorem nl_lits (cl : Cl) : noLstAll (cl.map dL) = true := by simpa [noLst] using nl_map nl_dL cl
def spLClause (K : PySem.W.Frag) : Sp := fun vs H Q _ => ∃ (fe c na : Addr) (xs : List Int) (t : Nat) (ns : List Str), vs = [.ref fe, .ref na] ∧ FeedAt H fe c xs t ∧ xs.length ≤ 63 ∧ SqL K H na (ns.map V.str) ∧ ns.length ≤ 12 ∧ ns.Nodup ∧ na ≠ fe ∧ t + 30 < 2 ^ 20 ∧
  ∀ H' y (cl : Cl) (t' : Nat), ClOf ns cl → Dp K H' y (dC (srtE dL cl)) → t' ≤ t + 30 → FeedAt H' fe c xs t' → But fe H H' → Q y H'
abbrev nLCl : List Str := ["_law_feed_here", "_law_names", "_law_left", "_law_many", "_law_found", "_law_k"]
theorem scLCl : FnScope nLCl ["_law_feed_here", "_law_names"] (defScope sLClause) := ⟨rfl, rfl, rfl, by decide +kernel, rfl, by decide +kernel, by decide +kernel⟩
theorem ok_lclause (B : Blt mg) (G1 : FnOk P w K mg base CX0 1 f1 fd1 ["_law_feed_here", "_law_many"] spDraw) (D1 : Df K mg "_law_draw" sLDraw ["_law_feed_here", "_law_many"] f1 fd1)
    (D : Df K mg "_law_clause" sLClause ["_law_feed_here", "_law_names"] f fd) : FnOk P w K mg base CX0 2 f fd ["_law_feed_here", "_law_names"] (spLClause K) := by
  refine D.fn.ok scLCl (fun vs H Q E h => ?_) (fun cdv A outer s H vs Q E hr h => ?_)
  · obtain ⟨fe, c, na, xs, t, ns, rfl, _⟩ := h
    rfl
  · obtain ⟨fe, c, na, xs, t, ns, rfl, F, lx, hna, ln, nd, nfe, ht, kk⟩ := h
    refine ⟨_, pss_cons (ps_set (i := 2) scLCl.nd rfl (Or.inl rfl) (pe_callTy call_list_of (by rfl) B.lst (by decide +kernel) (pa_cons (pv 1) pa_nil)))
      (pss_cons (ps_set (i := 3) scLCl.nd rfl (Or.inl rfl) (pe_ix ix_list (pe_lst (pa_cons pe_int (pa_cons pe_int (pa_cons pe_int (pa_cons pe_int (pa_cons pe_int (pa_cons pe_int (pa_cons (pe_callB call_len_seq (by rfl) B.len PySem.boot_len (pa_cons (pv 2) pa_nil)) (pa_cons pe_int pa_nil)))))))))
          (pe_call G1 hr rfl D1.mg D1.fn.kp D1.bd .nil pass0 (pa_cons (pv 0) (pa_cons (pe_ix ix_list (pe_lst (pa_cons pe_int (pa_cons pe_int (pa_cons pe_int (pa_cons pe_int pa_nil))))) (pe_call G1 hr rfl D1.mg D1.fn.kp D1.bd .nil pass0 (pa_cons (pv 0) (pa_cons pe_int pa_nil))) (fun _ _ => rfl)) pa_nil))) (fun _ _ => rfl)))
      (pss_cons (ps_set (i := 4) scLCl.nd rfl (Or.inl rfl) (pe_lst pa_nil))
      (pss_cons (ps_for PassesOwn.never rfl (pi_range1 (by rfl) B.rng (pa_cons (pe_callB (call_min2 rfl) (by rfl) B.min (by decide +kernel) (pa_cons (pv 3) (pa_cons (pe_callB call_len_seq (by rfl) B.len PySem.boot_len (pa_cons (pv 2) pa_nil)) pa_nil))) pa_nil)) (pg_name (i := 5) scLCl.nd rfl (Or.inl rfl))
        (pss_one (ps_expr (pe_bm PySem.F.plainAttrs_list PySem.F.slot_list_append PySem.F.type_list_append mt_append (pv 4) (pa_cons (pe_tup (pa_cons
          (pe_bm PySem.F.plainAttrs_list PySem.F.slot_list_pop PySem.F.type_list_pop mt_popAt (pv 2) (pa_cons (pe_call G1 hr rfl D1.mg D1.fn.kp D1.bd .nil pass0 (pa_cons (pv 0) (pa_cons (pe_callB call_len_seq (by rfl) B.len PySem.boot_len (pa_cons (pv 2) pa_nil)) pa_nil))) pa_nil))
          (pa_cons (pe_cmpR op_eq (pe_call G1 hr rfl D1.mg D1.fn.kp D1.bd .nil pass0 (pa_cons (pv 0) (pa_cons pe_int pa_nil))) pe_int (nomark _)) pa_nil))) pa_nil)))))
      (pss_one (ps_ret (pe_callTy call_tuple_of (by rfl) B.tup (by decide +kernel) (pa_cons (pe_callB (cr_sortedD (hu0 hr (by decide))) (by rfl) B.srt (by decide +kernel) (pa_cons (pv 4) pa_nil)) pa_nil))))))), ?_⟩
    refine ⟨_, rfl, na, _, rfl, .inl hna, fun ll hll => ?_⟩
    have s1 : Same H (upd H ll (.lst (ns.map V.str))) := same_upd hll
    have hl1 : upd H ll (.lst (ns.map V.str)) ll = some (.lst (ns.map V.str)) := upd_same
    have F1 := F.same s1
    generalize upd H ll (.lst (ns.map V.str)) = H1 at s1 hl1 F1
    refine ⟨_, rfl, ll, _, rfl, .inl (SqL.of hl1), by show 8 ≤ sizeLine; decide, fun p1 hp1 => ?_⟩
    rw [List.length_map]
    have s2 := same_put (u := .lst [V.int 1, .int 2, .int 2, .int 2, .int 3, .int 3, .int (ns.length : Nat), .int 0]) s1 hp1
    have hp1' : (upd H1 p1 (.lst [V.int 1, .int 2, .int 2, .int 2, .int 3, .int 3, .int (ns.length : Nat), .int 0])) p1 = some (.lst [V.int 1, .int 2, .int 2, .int 2, .int 3, .int 3, .int (ns.length : Nat), .int 0]) := upd_same
    have hl2 := same_upd (u := .lst [V.int 1, .int 2, .int 2, .int 2, .int 3, .int 3, .int (ns.length : Nat), .int 0]) hp1 _ _ hl1
    have F2 := F1.same (same_upd (u := .lst [V.int 1, .int 2, .int 2, .int 2, .int 3, .int 3, .int (ns.length : Nat), .int 0]) hp1)
    generalize upd H1 p1 (.lst [V.int 1, .int 2, .int 2, .int 2, .int 3, .int 3, .int (ns.length : Nat), .int 0]) = H2 at s2 hp1' hl2 F2
    refine ⟨_, rfl, by show 4 ≤ sizeLine; decide, fun p2 hp2 => ?_⟩
    have s3 := same_put (u := .lst [V.int 7, .int 7, .int 7, .int 8]) s2 hp2
    have e23 : Same H2 (upd H2 p2 (.lst [V.int 7, .int 7, .int 7, .int 8])) := same_upd hp2
    have hp2' : (upd H2 p2 (.lst [V.int 7, .int 7, .int 7, .int 8])) p2 = some (.lst [V.int 7, .int 7, .int 7, .int 8]) := upd_same
    have hp13 := e23 _ _ hp1'
    have hl3 := e23 _ _ hl2
    have F3 := F2.same e23
    generalize upd H2 p2 (.lst [V.int 7, .int 7, .int 7, .int 8]) = H3 at s3 e23 hp2' hp13 hl3 F3
    have nef : ∀ {b o}, H3 b = some o → (∀ a r t : Nat, o ≠ .lst [.ref c, .int (a : Nat), .int (r : Nat), .int (t : Nat)]) → b ≠ fe := fun e n z => by
      obtain ⟨a, r, h1⟩ := F3.ex
      rw [z, h1] at e
      exact n a r t (Option.some.inj e).symm
    have n2f : p2 ≠ fe := nef hp2' fun a r t z => by cases z
    have n1f : p1 ≠ fe := nef hp13 fun a r t z => by cases z
    have nlf : ll ≠ fe := by obtain ⟨a, r, h1⟩ := F.ex; exact (ne_of_none h1 hll).symm
    have nlc : ll ≠ c := (ne_of_none F.cells hll).symm
    refine ⟨_, rfl, fe, c, xs, t, 4, rfl, F3, lx, by decide, by decide, by omega, fun H4 r1 hr1 F4 b4 => ?_⟩
    obtain ⟨v1, hv1, hv7, hv8⟩ : ∃ v : Nat, [V.int 7, .int 7, .int 7, .int 8][r1]? = some (.int (v : Nat)) ∧ 1 ≤ v ∧ v ≤ 8 := by
      match r1, hr1 with
      | 0, _ => exact ⟨7, rfl, by decide, by decide⟩
      | 1, _ => exact ⟨7, rfl, by decide, by decide⟩
      | 2, _ => exact ⟨7, rfl, by decide, by decide⟩
      | 3, _ => exact ⟨8, rfl, by decide, by decide⟩
    refine ⟨p2, _, _, _, rfl, rfl, SqL.of (b4 _ _ hp2' n2f), atI_nat hv1, ?_⟩
    refine ⟨fe, c, xs, t + 1, v1, rfl, F4, lx, hv7, by omega, by omega, fun H5 r2 hr2 F5 b5 => ?_⟩
    obtain ⟨m, hm, hm12⟩ : ∃ m : Nat, [V.int 1, .int 2, .int 2, .int 2, .int 3, .int 3, .int (ns.length : Nat), .int 0][r2]? = some (.int (m : Nat)) ∧ m ≤ 12 := by
      have h8 : r2 < 8 := by omega
      match r2, h8 with
      | 0, _ => exact ⟨1, rfl, by decide⟩
      | 1, _ => exact ⟨2, rfl, by decide⟩
      | 2, _ => exact ⟨2, rfl, by decide⟩
      | 3, _ => exact ⟨2, rfl, by decide⟩
      | 4, _ => exact ⟨3, rfl, by decide⟩
      | 5, _ => exact ⟨3, rfl, by decide⟩
      | 6, _ => exact ⟨ns.length, rfl, ln⟩
      | 7, _ => exact ⟨0, rfl, by decide⟩
    refine ⟨p1, _, _, _, rfl, rfl, SqL.of (b5 _ _ (b4 _ _ hp13 n1f) n1f), atI_nat hm, ?_⟩
    have hl5 := b5 _ _ (b4 _ _ hl3 nlf) nlf
    have b05 : But fe H H5 := ((But.same s3).trans b4).trans b5
    refine ⟨Nat.zero_le _, fun fl hfl => ?_⟩
    have nfe' : fl ≠ fe := by obtain ⟨a, r, h1⟩ := F5.ex; exact (ne_of_none h1 hfl).symm
    have nfc : fl ≠ c := (ne_of_none F5.cells hfl).symm
    have nfl : ll ≠ fl := ne_of_none hl5 hfl
    have hflH : H fl = none := by
      cases z : H fl with
      | none => rfl
      | some o => rw [b05 _ _ z nfe'] at hfl; cases hfl
    obtain ⟨n, hn, hnl⟩ : ∃ n : Nat, (if ((ns.length : Nat) : Int) < (m : Int) then ((ns.length : Nat) : Int) else (m : Int)) = (n : Int) ∧ n ≤ ns.length := by
      by_cases h : ((ns.length : Nat) : Int) < (m : Int)
      · exact ⟨ns.length, if_pos h, Nat.le_refl _⟩
      · exact ⟨m, if_neg h, by omega⟩
    refine ⟨_, rfl, _, rfl, ll, _, rfl, .inl (SqL.of (same_upd hfl _ _ hl5)), _, _, rfl, ?_⟩
    rw [List.length_map, hn]
    refine ⟨_, rfl, by omega, by omega, for_it (walk_range (lo := 0) (n := (n : Int).toNat)) (fun i σ H' => ∃ (x5 : Option V) (ls : List Str) (vs : List V) (cl : Cl) (t' : Nat), σ = [some (.ref fe), some (.ref na), some (.ref ll), some (.int (m : Nat)), some (.ref fl), x5] ∧ H' ll = some (.lst (ls.map V.str)) ∧ H' fl = some (.lst vs) ∧ DpAll K H' vs (cl.map dL) ∧
        ls.length = ns.length - i ∧ cl.length = i ∧ (cl.map (·.1) ++ ls).Perm ns ∧ t' ≤ t + 2 + 2 * i ∧ FeedAt H' fe c xs t' ∧ But fe H H')
      ⟨none, ns, [], [], t + 1 + 1, rfl, same_upd hfl _ _ hl5, upd_same, .nil, rfl, rfl, List.Perm.refl _, by omega, F5.same (same_upd hfl), b05.trans (.same (same_upd hfl))⟩ (fun _ _ _ _ _ => trivial) ?_ ?_⟩
    · rintro i x _ _ H6 hi ⟨x5, ls, vs, cl, t', rfl, hl6, hf6, dv6, l1, l2, pm, ht', F6, b6⟩ ⟨rfl, rfl⟩
      rw [Int.toNat_natCast] at hi
      have hlpos : 1 ≤ ls.length := by omega
      obtain ⟨a6, q6, hfe6⟩ := F6.ex
      refine ⟨_, rfl, .inl ⟨rfl, _, SqL.of hf6⟩, _, rfl, .inl ⟨rfl, _, SqL.of hl6⟩, _, rfl, _, rfl, ll, _, rfl, .inl (SqL.of hl6), ?_⟩
      rw [List.length_map]
      refine ⟨fe, c, xs, t', ls.length, rfl, F6, lx, hlpos, by omega, by omega, fun H7 r hr7 F7 b7 => ?_⟩
      have hl7 := b7 _ _ hl6 nlf
      have hf7 := b7 _ _ hf6 nfe'
      have tk7 : Tk K H6 H7 := b7.tk hfe6
      refine ⟨ll, _, (r : Int), r, .str (ls[r]'hr7), rfl, rfl, hl7, by omega, by omega, (ixN_seq (ixN_at (by rw [List.length_map]; exact hr7))).1, by rw [List.getElem?_map, at_ix hr7]; rfl, ?_⟩
      have tk8 : Tk K H7 (upd H7 ll (.lst ((ls.map V.str).eraseIdx r))) := tk_lst hl7
      have b8 : But ll H7 (upd H7 ll (.lst ((ls.map V.str).eraseIdx r))) := .upd
      have hl8 : (upd H7 ll (.lst ((ls.map V.str).eraseIdx r))) ll = some (.lst ((ls.eraseIdx r).map V.str)) := by rw [upd_same, map_erase]
      have hf8 : (upd H7 ll (.lst ((ls.map V.str).eraseIdx r))) fl = some (.lst vs) := b8 _ _ hf7 nfl.symm
      have F8 := F7.but b8 nlf.symm nlc.symm
      generalize upd H7 ll (.lst ((ls.map V.str).eraseIdx r)) = H8 at tk8 b8 hl8 hf8 F8
      obtain ⟨a8, q8, hfe8⟩ := F8.ex
      refine ⟨_, rfl, fe, c, xs, t' + 1, 2, rfl, F8, lx, by decide, by decide, by omega, fun H9 r2 hr2 F9 b9 => ⟨rfl, Nat.succ_le_succ (Nat.succ_le_succ (Nat.zero_le _)), fun q hq => ?_⟩⟩
      have tk9 : Tk K H8 H9 := b9.tk hfe8
      have hl9 := b9 _ _ hl8 nlf
      have hf9 := b9 _ _ hf8 nfe'
      generalize decide (V.int (r2 : Nat) = V.int 0) = bb at hq ⊢
      have e10 : Same H9 (upd H9 q (.tup [.str (ls[r]'hr7), .bl bb])) := same_upd hq
      have hq10 : SqT K (upd H9 q (.tup [.str (ls[r]'hr7), .bl bb])) q [.str (ls[r]'hr7), .bl bb] := SqT.of upd_same
      have lvs := dpLen dv6
      rw [List.length_map] at lvs
      refine ⟨fl, _, _, rfl, rfl, e10 _ _ hf9, Nat.lt_of_le_of_lt (show vs.length ≤ 12 by omega) (by decide), ?_⟩
      generalize upd H9 q (.tup [.str (ls[r]'hr7), .bl bb]) = H10 at e10 hq10
      have tk11 : Tk K H10 (upd H10 fl (.lst (vs ++ [.ref q]))) := tk_lst (e10 _ _ hf9)
      have tkA : Tk K H6 (upd H10 fl (.lst (vs ++ [.ref q]))) := (((tk7.trans tk8).trans tk9).trans (Tk.same e10)).trans tk11
      refine ⟨_, ls.eraseIdx r, vs ++ [.ref q], cl ++ [(ls[r]'hr7, bb)], t' + 1 + 1, rfl, by rw [upd_ne nfl]; exact e10 _ _ hl9, upd_same, ?_, by rw [List.length_eraseIdx_of_lt hr7]; omega, by rw [List.length_append, l2]; rfl, ?_, by omega, (F9.same e10).but .upd nfe'.symm nfc.symm, fun b o e n => ?_⟩
      · rw [List.map_append]
        exact dpSnoc (dpAllTk tkA _ _ (nl_lits cl) dv6) (.tup (tk11 _ _ hq10) (.cons (.str _) (.cons (.bl _) .nil)))
      · rw [List.map_append, List.append_assoc]
        exact (List.Perm.append_left _ (perm_erase ls r hr7)).trans pm
      · have e1 := b7 _ _ (b6 b o e n) n
        have nbl : b ≠ ll := ne_of_none e hll
        have nbf : b ≠ fl := ne_of_none e hflH
        rw [upd_ne nbf]
        exact e10 _ _ (b9 _ _ (b8 _ _ e1 nbl) n)
    · rintro σ H6 ⟨x5, ls, vs, cl, t', rfl, hl6, hf6, dv6, l1, l2, pm, ht', F6, b6⟩
      have lvs := dpLen dv6
      have efst : (vs.zip (cl.map dL)).map (·.1) = vs := List.map_fst_zip (Nat.le_of_eq lvs)
      have esnd : (vs.zip (cl.map dL)).map (·.2) = cl.map dL := List.map_snd_zip (Nat.le_of_eq lvs.symm)
      refine ⟨_, rfl, fl, vs.zip (cl.map dL), rfl, by rw [efst]; exact SqL.of hf6, fun z hz => dpAll_zip dv6 z hz, by rw [esnd]; exact sortOk_dL cl, fun p hp => ⟨p, _, rfl, .inl ⟨SqL.of upd_same, fun y hy => ?_⟩⟩⟩
      have da : DpAll K H6 ((srt (vs.zip (cl.map dL))).map (·.1)) ((srtE dL cl).map dL) := by
        have h := dpAll_map (K := K) (H := H6) (fun z : V × PyData => z.1) (fun z : V × PyData => z.2) (srt (vs.zip (cl.map dL))) fun z hz => dpAll_zip dv6 z ((srt_perm _).mem_iff.mp hz)
        rw [srt_snd, esnd, srtD_map] at h
        exact h
      have s7 : Same H6 (upd H6 p (.lst ((srt (vs.zip (cl.map dL))).map (·.1)))) := same_upd hp
      have nd2 := List.nodup_append.mp (pm.nodup_iff.mpr nd)
      refine kk _ (.ref y) cl t' ⟨fun l hl => pm.mem_iff.mp (List.mem_append_left _ (List.mem_map.mpr ⟨l, hl, rfl⟩)), nd2.1⟩ (dp_new hy (dpAllSame s7 _ _ da)) (by omega) (F6.same (same_put s7 hy)) (b6.trans (.same (same_put s7 hy)))
end
end Wc
set_option maxRecDepth 100000
set_option maxHeartbeats 400000
/-! W43: _law_rows. -/
namespace Wc
open PySem PySem.Spec PyProof.Rows L2
open PySem.W (dataLt alike)
def dB (r : List Bool) : PyData := .tuple (r.map .bool)
theorem pair_len (ts : List (List Bool)) : (ts.flatMap fun r => [r ++ [false], r ++ [true]]).length = 2 * ts.length := by
  induction ts with
  | nil => rfl
  | cons t ts ih =>
    rw [List.flatMap_cons, List.length_append, ih]
    show 2 + 2 * ts.length = 2 * (ts.length + 1)
    omega
theorem truths_len : ∀ n, (truths n).length = 2 ^ n
  | 0 => rfl
  | n + 1 => by
    show ((truths n).flatMap fun r => [r ++ [false], r ++ [true]]).length = _
    rw [pair_len, truths_len n, Nat.pow_succ, Nat.mul_comm]
section
variable {P : Program} {w : World} {K : PySem.W.Frag} {mg : Str → Option Value} {base : Heap} {f f1 f2 f3 : Addr} {fd fd1 fd2 fd3 : FuncData}
theorem truths_row : ∀ n, ∀ r ∈ truths n, r.length = n
  | 0, r, h => by
    have : r = [] := by simpa [truths] using h
    rw [this]; rfl
  | n + 1, r, h => by
    obtain ⟨t, ht, hr⟩ := List.mem_flatMap.mp h
    have := truths_row n t ht
    have : r = t ++ [false] ∨ r = t ++ [true] := by simpa using hr
    rcases this with rfl | rfl <;> rw [List.length_append] <;> simp [*]
/-- a row and one truth more -/
theorem cat1 {H : Hp} {a b : Addr} {r : List Bool} {v : Bool} {Q : VK} (ha : SqT K H a (r.map V.bl)) (hb : SqT K H b [V.bl v]) (hl : r.length ≤ 1000) (k : ∀ H' p, Same H H' → SqT K H' p ((r ++ [v]).map V.bl) → Q (.ref p) H') : rCatA K (.ref a) (.ref b) H Q := by
  refine ⟨a, b, _, _, rfl, rfl, ha, hb, by rw [List.length_map]; exact Nat.le_trans (Nat.add_le_add_right hl 1) (by decide), fun e => ?_, fun _ e => (by cases e), fun _ _ p hp => ?_⟩
  · have e' : r = [] := by simpa using e
    subst e'
    exact k H b (Same.refl _) hb
  · refine k _ p (same_upd hp) ?_
    rw [List.map_append]
    exact SqT.of upd_same
def spRows (K : PySem.W.Frag) : Sp := fun vs H Q _ => ∃ n : Nat, vs = [.int (n : Nat)] ∧ n ≤ 7 ∧ ∀ H' fl vs, Same H H' → H' fl = some (.lst vs) → DpAll K H' vs ((truths n).map dB) → Q (.ref fl) H'
abbrev nRows : List Str := ["_law_many", "_law_found", "_law_k", "_law_longer", "_law_row"]
theorem scRows : FnScope nRows ["_law_many"] (defScope sLRows) := ⟨rfl, rfl, rfl, by decide +kernel, rfl, by decide +kernel, by decide +kernel⟩
theorem ok_lrows (B : Blt mg) (D : Df K mg "_law_rows" sLRows ["_law_many"] f fd) : FnOk P w K mg base CX0 1 f fd ["_law_many"] (spRows K) := by
  refine D.fn.ok scRows (fun vs H Q E h => ?_) (fun cdv A outer s H vs Q E hr h => ?_)
  · obtain ⟨n, rfl, _⟩ := h
    rfl
  · obtain ⟨n, rfl, hn, kk⟩ := h
    refine ⟨_, pss_cons (ps_set (i := 1) scRows.nd rfl (Or.inl rfl) (pe_lst (pa_cons (pe_tup pa_nil) pa_nil)))
      (pss_cons (ps_for PassesOwn.never rfl (pi_range1 (by rfl) B.rng (pa_cons (pv 0) pa_nil)) (pg_name (i := 2) scRows.nd rfl (Or.inl rfl))
        (pss_cons (ps_set (i := 3) scRows.nd rfl (Or.inl rfl) (pe_lst pa_nil))
        (pss_cons (ps_for PassesOwn.never rfl (pi_list (pv 1)) (pg_name (i := 4) scRows.nd rfl (Or.inl rfl))
          (pss_one (ps_set (i := 3) scRows.nd rfl (Or.inl rfl) (pe_op op_cat (pv 3) (pe_lst (pa_cons (pe_op op_catA (pv 4) (pe_tup (pa_cons pe_bl pa_nil))) (pa_cons (pe_op op_catA (pv 4) (pe_tup (pa_cons pe_bl pa_nil))) pa_nil)))))))
        (pss_one (ps_set (i := 1) scRows.nd rfl (Or.inl rfl) (pv 3))))))
      (pss_one (ps_ret (pv 1)))), ?_⟩
    refine ⟨Nat.zero_le _, fun p1 hp1 => ⟨Nat.succ_le_succ (Nat.zero_le _), fun p2 hp2 => ?_⟩⟩
    have s1 := same_put (u := .lst [V.ref p1]) (same_upd (u := .tup []) hp1) hp2
    refine ⟨_, rfl, _, rfl, by omega, by omega, for_it (walk_range (lo := 0) (n := ((n : Nat) : Int).toNat)) (fun i σ H' => ∃ (x2 x3 x4 : Option V) (fl : Addr) (vs : List V), σ = [some (.int (n : Nat)), some (.ref fl), x2, x3, x4] ∧ Same H H' ∧ H' fl = some (.lst vs) ∧ DpAll K H' vs ((truths i).map dB))
      ⟨none, none, none, p2, _, rfl, s1, upd_same, .cons (dpSame (same_upd hp2) _ _ (dp_new hp1 .nil)) .nil⟩ (fun _ _ _ _ _ => trivial) ?_ ?_⟩
    · rintro i x _ _ H1 hi ⟨x2, x3, x4, fl, vs, rfl, s1, hfl, dv⟩ ⟨rfl, rfl⟩
      rw [Int.toNat_natCast] at hi
      have lvs : vs.length = (truths i).length := by have := dpLen dv; simpa using this
      have l128 : (truths i).length ≤ 128 := by rw [truths_len]; exact Nat.le_trans (Nat.pow_le_pow_right (by decide) (show i ≤ 7 by omega)) (by decide)
      refine ⟨Nat.zero_le _, fun lg hlg => ?_⟩
      refine ⟨_, rfl, fl, rfl, ⟨_, SqL.of (same_upd hlg _ _ hfl)⟩, for_it (walk_list (xs := vs)) (fun j σ H' => ∃ (y2 y4 : Option V) (lg : Addr) (ws : List V), σ = [some (.int (n : Nat)), some (.ref fl), y2, some (.ref lg), y4] ∧ Same H1 H' ∧ H' lg = some (.lst ws) ∧ DpAll K H' ws ((((truths i).take j).flatMap fun r => [r ++ [false], r ++ [true]]).map dB))
        ⟨_, _, lg, [], rfl, same_upd hlg, upd_same, .nil⟩ (fun j σ H' _ ⟨_, _, _, _, _, e, _⟩ => SqL.of (e _ _ hfl)) ?_ ?_⟩
      · rintro j x _ _ H2 hj ⟨y2, y4, lg, ws, rfl, s2, hlg, dw⟩ ⟨rfl, hx⟩
        obtain ⟨hjt, dx⟩ := dp_at (enc := dB) [] (dpAllSame s2 _ _ dv) hx
        obtain ⟨a, zs, rfl, ha, dz⟩ := dp_tup dx
        have ez := dp_bools dz
        subst ez
        have hrl : ((truths i).getD j []).length ≤ 1000 := by rw [truths_row i _ (mem_getD _ hjt)]; omega
        have etk : (truths i).take (j + 1) = (truths i).take j ++ [(truths i).getD j []] := by rw [List.take_add_one, List.getD_eq_getElem?_getD, at_ix hjt]; rfl
        generalize (truths i).getD j [] = r at *
        refine ⟨_, rfl, _, rfl, Nat.succ_le_succ (Nat.zero_le _), fun q1 hq1 => cat1 (seqT (same_upd hq1) ha) (SqT.of upd_same) hrl fun H3 a1 t3 d3 => ?_⟩
        have s3 : Same H2 H3 := (same_upd hq1).trans t3
        refine ⟨_, rfl, Nat.succ_le_succ (Nat.zero_le _), fun q2 hq2 => cat1 (seqT (same_put s3 hq2) ha) (SqT.of upd_same) hrl fun H4 a2 t4 d4 => ?_⟩
        have s4 : Same H3 H4 := (same_upd hq2).trans t4
        refine ⟨Nat.succ_le_succ (Nat.succ_le_succ (Nat.zero_le _)), fun q3 hq3 => ?_⟩
        have s5 : Same H2 (upd H4 q3 (.lst [V.ref a1, .ref a2])) := same_put (s3.trans s4) hq3
        have lws := dpLen dw
        rw [List.length_map, pair_len, List.length_take] at lws
        refine ⟨lg, q3, _, _, rfl, rfl, s5 _ _ hlg, upd_same, ?_, fun q4 hq4 => ?_⟩
        · exact Nat.le_trans (show ws.length + 2 ≤ 1000 by omega) (by decide)
        have s6 := same_put (u := .lst (ws ++ [V.ref a1, .ref a2])) s5 hq4
        have s46 : Same H4 (upd (upd H4 q3 (.lst [V.ref a1, .ref a2])) q4 (.lst (ws ++ [V.ref a1, .ref a2]))) := same_put (same_upd hq3) hq4
        refine ⟨_, _, q4, _, rfl, s2.trans s6, upd_same, ?_⟩
        rw [etk, List.flatMap_append, List.map_append]
        refine dpApp (dpAllSame s6 _ _ dw) ?_
        have bl : ∀ (H : Hp) (bs : List Bool), DpAll K H (bs.map V.bl) (bs.map .bool) := fun H bs => dpAll_map V.bl PyData.bool bs fun b _ => .bl b
        exact .cons (.tup (seqT (s4.trans s46) d3) (bl _ _)) (.cons (.tup (seqT s46 d4) (bl _ _)) .nil)
      · rintro σ H2 ⟨y2, y4, lg, ws, rfl, s2, hlg, dw⟩
        rw [lvs, List.take_length] at dw
        exact ⟨_, rfl, _, _, _, lg, ws, rfl, s1.trans s2, hlg, dw⟩
    · rintro σ H1 ⟨x2, x3, x4, fl, vs, rfl, s1, hfl, dv⟩
      rw [Int.toNat_natCast] at dv
      exact ⟨_, rfl, kk H1 fl vs s1 hfl dv⟩
end
end Wc
set_option maxRecDepth 100000
set_option maxHeartbeats 400000
/-! W44: _law_meets. -/
namespace Wc
open PySem PySem.Spec PyProof.Rows L2
open PySem.W (dataLt alike)
theorem eqv_strs_nil (ns : List Str) : PyData.eqv (.list (ns.map .str)) (.list []) = ns.isEmpty := by
  cases ns with
  | nil => decide +kernel
  | cons n ns => simp [PyData.eqv, PyData.eqvAll]
theorem sh_strsL {ns : List Str} (h : ∀ n ∈ ns, n ∈ pool) : SeqAt.shaped (.list (ns.map .str)) = true := sh_of (lay_lmap fun n hn => pool_ok n (h n hn)) (dp_lmap (n := 0) (fun _ => Nat.zero_le _) ns) (by decide)
section
variable {P : Program} {w : World} {K : PySem.W.Frag} {mg : Str → Option Value} {base : Heap} {f f1 f2 f3 : Addr} {fd fd1 fd2 fd3 : FuncData}
def spMeets (K : PySem.W.Frag) : Sp := fun vs H Q _ => ∃ (v : V) (d : Addr) (kvs : List (Key × V)) (had : Str → Bool) (cs : Cs), vs = [v, .ref d] ∧ Dp K H v (dS cs) ∧ H d = some (.dK kvs) ∧ Few cs ∧ OkS cs ∧ (∀ c ∈ cs, ∀ l ∈ c, valV kvs (.inr l.1) = some (.bl (had l.1))) ∧ ∀ H', Same H H' → Q (.bl (metS had cs)) H'
abbrev nMeets : List Str := ["_law_clauses", "_law_had", "_law_clause_here", "_law_name", "_law_truth"]
theorem scMeets : FnScope nMeets ["_law_clauses", "_law_had"] (defScope sLMeets) := ⟨rfl, rfl, rfl, by decide +kernel, rfl, by decide +kernel, by decide +kernel⟩
theorem ok_lmeets (B : Blt mg) (D : Df K mg "_law_meets" sLMeets ["_law_clauses", "_law_had"] f fd) : FnOk P w K mg base CX0 1 f fd ["_law_clauses", "_law_had"] (spMeets K) := by
  refine D.fn.ok scMeets (fun vs H Q E h => ?_) (fun cdv A outer s H vs Q E hr h => ?_)
  · obtain ⟨v, d, kvs, had, cs, rfl, _⟩ := h
    rfl
  · obtain ⟨v, d, kvs, had, cs, rfl, dv, hd, few, ok, hv, kk⟩ := h
    refine ⟨_, pss_cons (ps_for PassesOwn.never rfl (pi_tup (pv 0)) (pg_name (i := 2) scMeets.nd rfl (Or.inl rfl))
        (pss_one (ps_if (pt_cmpR (op_eqD (hu0 hr (by decide))) (pe_lc (own := [("_law_name", 3), ("_law_truth", 4)]) (g := gTup K 2 (gCons (gName 3) (gCons (gName 4) gNil))) (tt := tTest (tOp rEq (tDGet (tVar 1) (tVar 3)) (tVar 4))) (te := tVar 3) rfl scMeets.nd (pi_tup (pv 2)) (blkOk_by (N := nMeets) (sc := defScope sLMeets) (by decide +kernel))
          (fun _ _ _ _ _ => pg_tup rfl (pgs_cons (pg_name (i := 3) scMeets.nd rfl (Or.inl rfl)) (pgs_cons (pg_name (i := 4) scMeets.nd rfl (Or.inl rfl)) pgs_nil))) (fun _ _ _ _ _ => pts_one (pt_cmpR op_eq (pe_dget (hu0 hr (by decide)) (pv 1) (pv 3) (fun _ _ => rfl)) (pv 4) (nomark _))) (fun _ _ _ _ _ => pv 3))
          (pe_lst pa_nil) (nomark _)) (pss_one (ps_ret pe_bl)) pss_nil)))
      (pss_one (ps_ret pe_bl)), ?_⟩
    obtain ⟨a, xs, rfl, ha, dx⟩ := dp_tup dv
    have lx : xs.length = cs.length := by have := dpLen dx; simpa using this
    refine ⟨_, rfl, a, rfl, ⟨_, ha⟩, for_it (walk_tup (xs := xs)) (fun i σ H' => ∃ x2 : Option V, σ = [some (.ref a), some (.ref d), x2, none, none] ∧ Same H H' ∧ (cs.take i).all (metC had) = true)
      ⟨none, rfl, Same.refl _, rfl⟩ (fun i σ H' _ ⟨_, _, e, _⟩ => seqT e ha) ?_ ?_⟩
    · rintro i x _ _ H1 hi ⟨x2, rfl, s1, hall⟩ ⟨rfl, hx⟩
      obtain ⟨hic, dxi⟩ := dp_at (enc := dC) [] (dpAllSame s1 _ _ dx) hx
      obtain ⟨b, zs, rfl, hb, dz⟩ := dp_tup dxi
      have hcm : cs.getD i [] ∈ cs := mem_getD _ hic
      have lz : zs.length = (cs.getD i []).length := by have := dpLen dz; simpa using this
      have etk : cs.take (i + 1) = cs.take i ++ [cs.getD i []] := by rw [List.take_add_one, List.getD_eq_getElem?_getD, at_ix hic]; rfl
      have hvc := hv _ hcm
      have l12 := few.2 _ hcm
      have okc := ok _ hcm
      have split : metS had cs = false ∨ metC had (cs.getD i []) = true := by
        cases q : metC had (cs.getD i []) with
        | true => exact .inr rfl
        | false =>
          refine .inl (Bool.eq_false_iff.mpr fun z => ?_)
          have := List.all_eq_true.mp z _ hcm
          rw [q] at this
          cases this
      generalize cs.getD i [] = c at *
      refine ⟨_, rfl, b, rfl, ⟨_, hb⟩, fun D' hD => lcW (K := K) (walk_tup (xs := zs)) hD (by rw [lz]; exact Nat.le_trans l12 (by decide)) (fun H' e => seqT e hb)
        (fun j => if (had (c.getD j ("", false)).1 == (c.getD j ("", false)).2) = true then some (.str (c.getD j ("", false)).1) else none) (fun j d _ e => by split at e <;> cases e; rfl) ?_ ?_⟩
      · rintro j y _ H2 Rt Rf hj sm ⟨rfl, hy⟩ hT hF
        obtain ⟨hjc, dy⟩ := dp_at (enc := dL) ("", false) (dpAllSame sm _ _ dz) hy
        obtain ⟨e, rfl, he⟩ := dp_lit dy
        have hg : DGet H2 d (.str (c.getD j ("", false)).1) (some (.bl (had (c.getD j ("", false)).1))) := by
          rw [← hvc _ (mem_getD _ hjc)]
          exact DGet.k (k := .inr (c.getD j ("", false)).1) (sm _ _ (s1 _ _ hd))
        refine ⟨e, _, rfl, he, rfl, _, _, rfl, _, _, rfl, rfl, rfl, ⟨_, rfl, _, rfl, d, _, rfl, hg, _, rfl, rfl, _, rfl, ?_⟩⟩
        by_cases q : had (c.getD j ("", false)).1 = (c.getD j ("", false)).2
        · refine ifT (decide_eq_true (congrArg V.bl q)) ⟨_, rfl, hT _ _ _ (if_pos (by rw [q]; exact beq_self_eq_true _)) (Same.refl _) (.str _)⟩
        · refine ifF (decide_eq_false fun z => q (by injection z)) (hF _ (if_neg fun z => q (eq_of_beq z)) (Same.refl _))
      · intro H2 acc sm hD2 da
        rw [lz, fmap_range c (fun l => if (had l.1 == l.2) = true then some (PyData.str l.1) else none) ("", false), fmap_yes (fun l : Lit => (had l.1 == l.2) = true) (fun l => PyData.str l.1)] at da
        have em : (c.filter fun l => decide ((had l.1 == l.2) = true)).map (fun l => PyData.str l.1) = ((c.filter fun l => decide ((had l.1 == l.2) = true)).map (·.1)).map .str := by rw [List.map_map]; rfl
        rw [em] at da
        refine ⟨Nat.zero_le _, fun p hp => ⟨_, _, .lst (SqL.of (same_upd hp _ _ hD2)) (dpAllSame (same_upd hp) _ _ da), .lst (SqL.of upd_same) .nil, sh_strsL fun n hn => ?_, sh_nilL, _, rfl, ?_⟩⟩
        · obtain ⟨l, hl, rfl⟩ := List.mem_map.mp hn
          exact okc l (List.mem_filter.mp hl).1
        rw [eqv_strs_nil]
        have e9 : ((c.filter fun l => decide ((had l.1 == l.2) = true)).map (·.1)).isEmpty = !metC had c := by
          rw [List.isEmpty_map]
          unfold metC
          clear da em dz dxi hb hvc hx etk okc l12 lz split hcm
          induction c with
          | nil => rfl
          | cons l c ih =>
            rw [List.filter_cons, List.any_cons]
            cases q : had l.1 == l.2 with
            | true => rfl
            | false => simpa using ih
        rw [e9]
        have s2 := (s1.trans sm).trans (same_upd (u := .lst []) hp)
        cases q : metC had c with
        | false =>
          refine ifT rfl ?_
          rcases split with z | z
          · have := kk _ s2
            rw [z] at this
            exact this
          · rw [q] at z; cases z
        | true =>
          refine ifF rfl ⟨_, rfl, s2, ?_⟩
          rw [etk, List.all_append, hall]
          simp [q]
    · rintro σ H1 ⟨x2, rfl, s1, hall⟩
      rw [lx, List.take_length] at hall
      have := kk H1 s1
      rw [show metS had cs = true from hall] at this
      exact this
end
end Wc
set_option maxRecDepth 100000
set_option maxHeartbeats 400000
/-! W45: _law_count. -/
namespace Wc
open PySem PySem.Spec PyProof.Rows L2
open PySem.W (dataLt alike)
theorem val_merge (k : Key) : ∀ (more kvs : List (Key × V)), (∀ kv ∈ more, kv.1 ≠ k) → valV (mergeK kvs more) k = valV kvs k
  | [], _, _ => rfl
  | q :: more, kvs, h => by
    show valV (mergeK (putK kvs q.1 q.2) more) k = _
    rw [val_merge k more _ fun kv hkv => h kv (by simp [hkv]), valV_put, if_neg fun e => h q (by simp) e.symm]
theorem val_zip : ∀ (ns : List Str) (ys : List V) (kvs : List (Key × V)) (n : Str), ns.Nodup → n ∈ ns → ns.length = ys.length → valV (mergeK kvs ((ns.zip ys).map fun q => ((Sum.inr q.1 : Key), q.2))) (.inr n) = (ns.zip ys).lookup n
  | [], _, _, _, _, h, _ => by cases h
  | m :: ns, [], _, _, _, _, h => by cases h
  | m :: ns, y :: ys, kvs, n, nd, hn, hl => by
    have nd' := List.nodup_cons.mp nd
    show valV (mergeK (putK kvs (Sum.inr m) y) ((ns.zip ys).map fun q => ((Sum.inr q.1 : Key), q.2))) (.inr n) = List.lookup n ((m, y) :: ns.zip ys)
    by_cases e : n = m
    · subst e
      rw [val_merge, valV_put, if_pos rfl]
      · simp [List.lookup]
      · intro kv hkv q
        obtain ⟨z, hz, rfl⟩ := List.mem_map.mp hkv
        have q' : z.1 = n := by injection q
        exact nd'.1 (by rw [← q']; exact (List.of_mem_zip hz).1)
    · have hn' : n ∈ ns := (List.mem_cons.mp hn).resolve_left e
      rw [val_zip ns ys _ n nd'.2 hn' (by simpa using hl)]
      have eb : (n == m) = false := by simpa using e
      rw [List.lookup_cons, eb]
theorem zip_had : ∀ (ns : List Str) (r : List Bool) (n : Str), n ∈ ns → ns.length = r.length → (ns.zip (r.map V.bl)).lookup n = some (.bl (hadOf ns r n))
  | [], _, _, h, _ => by cases h
  | m :: ns, [], _, _, h => by cases h
  | m :: ns, b :: r, n, hn, hl => by
    unfold hadOf
    rw [List.map_cons, List.zip_cons_cons, List.zip_cons_cons, List.lookup_cons, List.lookup_cons]
    cases e : n == m with
    | true => rfl
    | false =>
      have hn' : n ∈ ns := (List.mem_cons.mp hn).resolve_left fun z => by rw [z, beq_self_eq_true] at e; cases e
      exact zip_had ns r n hn' (by simpa using hl)
theorem sel_len {α β : Type} [Inhabited α] (p : List α → Bool) : ∀ (ts : List (List α)) (vs : List β), vs.length = ts.length → ((List.range vs.length).filterMap fun i => if p (ts.getD i []) = true then vs[i]? else none).length = (ts.filter p).length
  | [], [], _ => rfl
  | [], _ :: _, h => by cases h
  | _ :: _, [], h => by cases h
  | t :: ts, v :: vs, h => by
    have ih := sel_len p ts vs (by simpa using h)
    rw [List.length_cons, List.range_succ_eq_map, List.filterMap_cons, List.filterMap_map, List.filter_cons]
    have e : ((fun i => if p ((t :: ts).getD i []) = true then (v :: vs)[i]? else none) ∘ Nat.succ) = fun i => if p (ts.getD i []) = true then vs[i]? else none := rfl
    rw [e]
    by_cases c : p t = true
    · simp [c]; exact ih
    · simp [c]; exact ih
section
variable {P : Program} {w : World} {K : PySem.W.Frag} {mg : Str → Option Value} {base : Heap} {f f1 f2 f3 : Addr} {fd fd1 fd2 fd3 : FuncData}
def spLCount (K : PySem.W.Frag) : Sp := fun vs H Q _ => ∃ (v : V) (ns : List Str) (cs : Cs), vs = [v] ∧ Dp K H v (dF ns cs) ∧ ns.length ≤ 7 ∧ ns.Nodup ∧ Few cs ∧ OkS cs ∧ (∀ c ∈ cs, ∀ l ∈ c, l.1 ∈ ns) ∧ ∀ H', Same H H' → Q (.int (rowsMet ns cs : Nat)) H'
abbrev nLCount : List Str := ["_law_form_here", "_law_names", "_law_clauses", "_law_row"]
theorem scLCount : FnScope nLCount ["_law_form_here"] (defScope sLCount) := ⟨rfl, rfl, rfl, by decide +kernel, rfl, by decide +kernel, by decide +kernel⟩
theorem ok_lcount (B : Blt mg) (G1 : FnOk P w K mg base CX0 1 f1 fd1 ["_law_many"] (spRows K)) (D1 : Df K mg "_law_rows" sLRows ["_law_many"] f1 fd1) (G2 : FnOk P w K mg base CX0 1 f2 fd2 ["_law_clauses", "_law_had"] (spMeets K)) (D2 : Df K mg "_law_meets" sLMeets ["_law_clauses", "_law_had"] f2 fd2)
    (D : Df K mg "_law_count" sLCount ["_law_form_here"] f fd) : FnOk P w K mg base CX0 2 f fd ["_law_form_here"] (spLCount K) := by
  refine D.fn.ok scLCount (fun vs H Q E h => ?_) (fun cdv A outer s H vs Q E hr h => ?_)
  · obtain ⟨v, ns, cs, rfl, _⟩ := h
    rfl
  · obtain ⟨v, ns, cs, rfl, dv, ln, nd, few, ok, hin, kk⟩ := h
    refine ⟨_, pss_cons (ps_asg (pv 0) (pg_tup rfl (pgs_cons (pg_name (i := 1) scLCount.nd rfl (Or.inr rfl)) (pgs_cons (pg_name (i := 2) scLCount.nd rfl (Or.inr rfl)) pgs_nil))))
      (pss_one (ps_ret (pe_callB call_len_seq (by rfl) B.len PySem.boot_len (pa_cons
        (pe_lc (own := [("_law_row", 3)]) (g := gName 3) (tt := tTest (tCall (spMeets K) [] E0 (tCons (tVar 2) (tCons (tDictZip K (tCons (tVar 1) (tCons (tVar 3) tNil))) tNil)))) (te := tVar 3) rfl scLCount.nd (pi_list (pe_call G1 hr rfl D1.mg D1.fn.kp D1.bd .nil pass0 (pa_cons (pe_callB call_len_seq (by rfl) B.len PySem.boot_len (pa_cons (pv 1) pa_nil)) pa_nil)))
          (blkOk_by (N := nLCount) (sc := defScope sLCount) (by decide +kernel)) (fun _ _ _ _ _ => pg_name (i := 3) scLCount.nd rfl (Or.inl rfl))
          (fun _ _ _ _ _ => pts_one (pt_val (pe_call G2 hr rfl D2.mg D2.fn.kp D2.bd .nil pass0 (pa_cons (pv 2) (pa_cons (pe_dictZip rfl B.dct rfl B.zip (pa_cons (pv 1) (pa_cons (pv 3) pa_nil)) rfl) pa_nil))))) (fun _ _ _ _ _ => pv 3)) pa_nil)))), ?_⟩
    obtain ⟨af, nv, cv, rfl, haf, d1, d2⟩ := dp_form dv
    obtain ⟨an, rfl, han⟩ := dp_names d1
    refine ⟨_, rfl, af, _, rfl, haf, rfl, _, _, rfl, _, _, rfl, rfl, ?_⟩
    refine ⟨_, rfl, an, _, rfl, .inr han, ns.length, by rw [List.length_map]; rfl, ln, fun H1 fl vs s1 hfl dvs => ?_⟩
    have lvs : vs.length = (truths ns.length).length := by have := dpLen dvs; simpa using this
    have l128 : (truths ns.length).length ≤ 128 := by rw [truths_len]; exact Nat.le_trans (Nat.pow_le_pow_right (by decide) ln) (by decide)
    refine ⟨fl, rfl, ⟨_, SqL.of hfl⟩, fun D' hD => lcV (walk_list (xs := vs)) hD (by rw [lvs]; exact Nat.le_trans l128 (by decide)) (fun H' e => SqL.of (e _ _ hfl))
      (fun i => if metS (hadOf ns ((truths ns.length).getD i [])) cs = true then vs[i]? else none) ?_ ?_⟩
    · rintro i x _ H2 Rt Rf hi sm ⟨rfl, hx⟩ hT hF
      obtain ⟨hit, dxi⟩ := dp_at (enc := dB) [] (dpAllSame sm _ _ dvs) hx
      obtain ⟨a, zs, rfl, ha, dz⟩ := dp_tup dxi
      have ez := dp_bools dz
      subst ez
      have hrl := truths_row ns.length _ (mem_getD ([] : List Bool) hit)
      generalize hr0 : (truths ns.length).getD i [] = r at *
      have s2 := s1.trans sm
      refine ⟨rfl, ⟨_, rfl, _, rfl, _, rfl, an, a, ns, r.map V.bl, rfl, seqT s2 han, ha, by rw [List.length_map, hrl], fun p hp => ?_⟩⟩
      refine ⟨cv, p, _, hadOf ns r, cs, rfl, dpSame (same_put s2 hp) _ _ d2, upd_same, few, ok, fun c hc l hl => ?_, fun H3 s3 => ⟨_, rfl, ?_⟩⟩
      · rw [val_zip ns _ _ _ nd (hin c hc l hl) (by rw [List.length_map, hrl])]
        exact zip_had ns r _ (hin c hc l hl) hrl.symm
      · have e3 : Same H2 H3 := (same_upd hp).trans s3
        by_cases q : metS (hadOf ns r) cs = true
        · exact ifT q ⟨_, rfl, hT _ _ (by rw [if_pos q]; exact hx) e3⟩
        · exact ifF (Bool.eq_false_iff.mpr q) (hF _ (by rw [if_neg q]) e3)
    · intro H2 sm hD2
      refine ⟨D', _, rfl, .inl (SqL.of hD2), ?_⟩
      have e := sel_len (fun r => metS (hadOf ns r) cs) (truths ns.length) vs lvs
      rw [e]
      exact kk _ (s1.trans sm)
end
end Wc
set_option maxRecDepth 100000
set_option maxHeartbeats 400000
/-! W46: _law_form. -/
namespace Wc
open PySem PySem.Spec PyProof.Rows L2
open PySem.W (dataLt alike)
theorem lt_dL {a b : Lit} (h : a.1 ≠ b.1) : dataLt (dL a) (dL b) = dataLt (.str a.1) (.str b.1) := by
  have ne : (Sum.inr a.1.cps.toList : Int ⊕ List Nat) ≠ Sum.inr b.1.cps.toList := fun e => h (PySem.W.str_of_cps (Sum.inr.inj e))
  exact (PySem.W.lex_pre [Sum.inl 1] (Sum.inr a.1.cps.toList :: PySem.W.keyToksAll [.bool a.2]) (Sum.inr b.1.cps.toList :: PySem.W.keyToksAll [.bool b.2])).trans (PySem.W.lex_atom ne _ _)
theorem nd_keys_put {ds : List (PyData × Addr × V)} {cls : List Cl} {c : Cl} {a : Addr} {v : V} (ek : ds.map (·.1) = cls.map dC) : (ndPut ds (dC c) a v).map (·.1) = (if c ∈ cls then cls else cls ++ [c]).map dC := by
  have key : (ndLook ds (dC c)).isSome = true ↔ c ∈ cls := by
    unfold ndLook
    rw [Option.isSome_map, List.find?_isSome]
    simp only [decide_eq_true_eq]
    constructor
    · rintro ⟨x, hx, e⟩
      have hm : x.1 ∈ cls.map dC := by rw [← ek]; exact List.mem_map.mpr ⟨x, hx, rfl⟩
      obtain ⟨d, hd, e2⟩ := List.mem_map.mp hm
      rw [← e2] at e
      rw [← nkey_dC_inj e]
      exact hd
    · intro hc
      have hm : dC c ∈ ds.map (·.1) := by rw [ek]; exact List.mem_map.mpr ⟨c, hc, rfl⟩
      obtain ⟨x, hx, e⟩ := List.mem_map.mp hm
      exact ⟨x, hx, by rw [e]⟩
  unfold ndPut
  by_cases h : c ∈ cls
  · rw [if_pos (key.mpr h), if_pos h, ← ek, List.map_map]
    refine List.map_congr_left fun x _ => ?_
    show (if nkey x.1 = nkey (dC c) then (x.1, x.2.1, v) else x).1 = x.1
    split <;> rfl
  · rw [if_neg fun z => h (key.mp z), if_neg h, List.map_append, List.map_append, ek]
    rfl
theorem ClOf.wf {ns : List Str} {cl : Cl} (h : ClOf ns cl) (ok : ∀ n ∈ ns, n ∈ pool) : WfC (srtE dL cl) := by
  have nd : cl.Nodup := (List.pairwise_map.mp h.nodup).imp fun {a b} q e => q (by rw [e])
  refine ⟨fun l hl => ok _ (h.names l (srtE_mem.mp hl)), ?_⟩
  rw [List.pairwise_map]
  have n2 : ((srtE dL cl).map (·.1)).Nodup := ((srtE_perm cl).map (·.1)).nodup_iff.mpr h.nodup
  have n3 : (srtE dL cl).Pairwise fun a b => a.1 ≠ b.1 := List.pairwise_map.mp n2
  refine ((srtE_strict ordL nd).and n3).imp fun {a b} ⟨h1, h2⟩ => ?_
  rw [← lt_dL h2]
  exact h1
section
variable {P : Program} {w : World} {K : PySem.W.Frag} {mg : Str → Option Value} {base : Heap} {f f1 f2 f3 : Addr} {fd fd1 fd2 fd3 : FuncData}
def spLForm (K : PySem.W.Frag) : Sp := fun vs H Q _ => ∃ (fe c : Addr) (xs : List Int) (t n m : Nat), vs = [.ref fe, .int (n : Nat), .int (m : Nat)] ∧ FeedAt H fe c xs t ∧ xs.length ≤ 63 ∧ n ≤ 7 ∧ m ≤ 12 ∧ t + 1000 < 2 ^ 20 ∧
  ∀ H' y (ns : List Str) (cs : Cs) (t' : Nat), Dp K H' y (dF ns cs) → ns.Sublist pool → ns.length ≤ n → WfS cs → cs.length ≤ 12 → (∀ c ∈ cs, ∀ l ∈ c, l.1 ∈ ns) → t' ≤ t + 1000 → FeedAt H' fe c xs t' → But fe H H' → Q y H'
abbrev nLForm : List Str := ["_law_feed_here", "_law_names", "_law_clauses", "_law_own", "_law_some", "_law_found", "_law_k"]
theorem scLForm : FnScope nLForm ["_law_feed_here", "_law_names", "_law_clauses"] (defScope sLForm) := ⟨rfl, rfl, rfl, by decide +kernel, rfl, by decide +kernel, by decide +kernel⟩
theorem ok_lform (B : Blt mg) (G1 : FnOk P w K mg base CX0 1 f1 fd1 ["_law_feed_here", "_law_many"] spDraw) (D1 : Df K mg "_law_draw" sLDraw ["_law_feed_here", "_law_many"] f1 fd1)
    (G2 : FnOk P w K mg base CX0 2 f2 fd2 ["_law_feed_here", "_law_many"] spPool) (D2 : Df K mg "_law_pool" sLPool ["_law_feed_here", "_law_many"] f2 fd2)
    (G3 : FnOk P w K mg base CX0 2 f3 fd3 ["_law_feed_here", "_law_names"] (spLClause K)) (D3 : Df K mg "_law_clause" sLClause ["_law_feed_here", "_law_names"] f3 fd3)
    (D : Df K mg "_law_form" sLForm ["_law_feed_here", "_law_names", "_law_clauses"] f fd) : FnOk P w K mg base CX0 3 f fd ["_law_feed_here", "_law_names", "_law_clauses"] (spLForm K) := by
  refine D.fn.ok scLForm (fun vs H Q E h => ?_) (fun cdv A outer s H vs Q E hr h => ?_)
  · obtain ⟨fe, c, xs, t, n, m, rfl, _⟩ := h
    rfl
  · obtain ⟨fe, c, xs, t, n, m, rfl, F, lx, hn, hm, ht, kk⟩ := h
    have hr1 : Room 1 _ := hr.mono (by decide)
    refine ⟨_, pss_cons (ps_set (i := 3) scLForm.nd rfl (Or.inl rfl) (pe_call G2 hr rfl D2.mg D2.fn.kp D2.bd .nil pass0 (pa_cons (pv 0) (pa_cons (pe_call G1 hr1 rfl D1.mg D1.fn.kp D1.bd .nil pass0 (pa_cons (pv 0) (pa_cons (pe_op op_add (pv 1) pe_int) pa_nil))) pa_nil))))
      (pss_cons (ps_set (i := 4) scLForm.nd rfl (Or.inl rfl) (pe_slice sl_list (pv 3) po_none (po_some (pe_callB (call_max2 rfl) (by rfl) B.max (by decide +kernel) (pa_cons pe_int (pa_cons (pe_op op_sub (pe_callB call_len_seq (by rfl) B.len PySem.boot_len (pa_cons (pv 3) pa_nil)) (pe_call G1 hr1 rfl D1.mg D1.fn.kp D1.bd .nil pass0 (pa_cons (pv 0) (pa_cons pe_int pa_nil)))) pa_nil))))))
      (pss_cons (ps_set (i := 5) scLForm.nd rfl (Or.inl rfl) pe_dnewN)
      (pss_cons (ps_for PassesOwn.never rfl (pi_range1 (by rfl) B.rng (pa_cons (pe_call G1 hr1 rfl D1.mg D1.fn.kp D1.bd .nil pass0 (pa_cons (pv 0) (pa_cons (pe_op op_add (pv 2) pe_int) pa_nil))) pa_nil)) (pg_name (i := 6) scLForm.nd rfl (Or.inl rfl))
        (pss_one (ps_asg pe_bl (pg_sub (t := rPutNd P w K) (pv 5) (pe_call G3 hr rfl D3.mg D3.fn.kp D3.bd .nil pass0 (pa_cons (pv 0) (pa_cons (pv 4) pa_nil))) (set_nd (hu0 hr (by decide)))))))
      (pss_one (ps_ret (pe_tup (pa_cons (pe_callTy call_tuple_of (by rfl) B.tup (by decide +kernel) (pa_cons (pv 3) pa_nil)) (pa_cons (pe_callTy call_tuple_of (by rfl) B.tup (by decide +kernel) (pa_cons (pe_callB (cr_sortedNd rfl (hu0 hr (by decide))) (by rfl) B.srt (by decide +kernel) (pa_cons (pv 5) pa_nil)) pa_nil)) pa_nil)))))))), ?_⟩
    refine ⟨_, rfl, _, rfl, _, rfl, _, _, rfl, rfl, fe, c, xs, t, n + 1, rfl, F, lx, by omega, by omega, by omega, fun H1 r hr1 F1 b1 => ?_⟩
    refine ⟨fe, c, xs, t + 1, r, rfl, F1, lx, by omega, by omega, fun H2 pl ns t2 hpl1 hpl lns sub ht2 F2 b2 => ?_⟩
    have hplH : H pl = none := by
      cases z : H pl with
      | none => rfl
      | some o => by_cases e : pl = fe
                  · obtain ⟨a, q, h1⟩ := F1.ex
                    rw [e, h1] at hpl1; cases hpl1
                  · rw [b1 _ _ z e] at hpl1; cases hpl1
    have npf : pl ≠ fe := by obtain ⟨a, q, h1⟩ := F1.ex; exact (ne_of_none h1 hpl1).symm
    refine ⟨_, rfl, _, rfl, pl, _, rfl, .inl (SqL.of hpl), _, rfl, ?_⟩
    rw [List.length_map]
    refine ⟨fe, c, xs, t2, 3, rfl, F2, lx, by decide, by decide, by omega, fun H3 r3 hr3 F3 b3 => ?_⟩
    have hpl3 := b3 _ _ hpl npf
    obtain ⟨k, hk⟩ : ∃ k : Nat, (if ((ns.length : Nat) : Int) - (r3 : Int) > 1 then ((ns.length : Nat) : Int) - (r3 : Int) else 1) = (k : Int) := by
      by_cases z : ((ns.length : Nat) : Int) - (r3 : Int) > 1
      · exact ⟨ns.length - r3, by rw [if_pos z]; omega⟩
      · exact ⟨1, by rw [if_neg z]; rfl⟩
    refine ⟨_, _, rfl, rfl, _, _, rfl, ?_⟩
    rw [hk]
    refine ⟨_, rfl, pl, _, rfl, SqL.of hpl3, fun sl hsl => ?_⟩
    rw [cutTo, ← List.map_take]
    have e34 : Same H3 (upd H3 sl (.lst ((ns.take k).map V.str))) := same_upd hsl
    have hsl4 : (upd H3 sl (.lst ((ns.take k).map V.str))) sl = some (.lst ((ns.take k).map V.str)) := upd_same
    have hpl4 := e34 _ _ hpl3
    have F4 := F3.same e34
    have b04 : But fe H (upd H3 sl (.lst ((ns.take k).map V.str))) := ((b1.trans b2).trans b3).trans (.same e34)
    have nsf : sl ≠ fe := by obtain ⟨a, q, h1⟩ := F3.ex; exact (ne_of_none h1 hsl).symm
    generalize upd H3 sl (.lst ((ns.take k).map V.str)) = H4 at e34 hsl4 hpl4 F4 b04
    intro dd hdd
    have ndf : dd ≠ fe := by obtain ⟨a, q, h1⟩ := F4.ex; exact (ne_of_none h1 hdd).symm
    have ndc : dd ≠ c := (ne_of_none F4.cells hdd).symm
    have ndp : pl ≠ dd := ne_of_none hpl4 hdd
    have nds : sl ≠ dd := ne_of_none hsl4 hdd
    have hddH : H dd = none := by
      cases z : H dd with
      | none => rfl
      | some o => rw [b04 _ _ z ndf] at hdd; cases hdd
    have e45 : Same H4 (upd H4 dd (NDictO P w dd [])) := same_upd hdd
    have okn : ∀ x ∈ ns.take k, x ∈ pool := fun x hx => sub.subset ((List.take_sublist k ns).subset hx)
    have pnd : pool.Nodup := by decide +kernel
    have ndn : ns.Nodup := pnd.sublist sub
    refine ⟨_, rfl, _, rfl, _, _, rfl, rfl, fe, c, xs, t2 + 1, m + 1, rfl, F4.same e45, lx, by omega, by omega, by omega, fun H6 r6 hr6 F6 b6 => ?_⟩
    refine ⟨_, rfl, by omega, by omega, for_it (walk_range (lo := 0) (n := ((r6 : Nat) : Int).toNat)) (fun i σ H' => ∃ (x6 : Option V) (ds : List (PyData × Addr × V)) (cls : List Cl) (t' : Nat), σ = [some (.ref fe), some (.int (n : Nat)), some (.int (m : Nat)), some (.ref pl), some (.ref sl), some (.ref dd), x6] ∧ H' pl = some (.lst (ns.map V.str)) ∧ H' sl = some (.lst ((ns.take k).map V.str)) ∧ H' dd = some (NDictO P w dd ds) ∧ NdK K H' ds ∧
        ds.map (·.1) = cls.map dC ∧ cls.Nodup ∧ cls.length ≤ i ∧ (∀ d ∈ cls, WfC d ∧ ∀ l ∈ d, l.1 ∈ ns) ∧ t' ≤ t + 20 + 30 * i ∧ FeedAt H' fe c xs t' ∧ But fe H H')
      ⟨none, [], [], t2 + 1 + 1, rfl, b6 _ _ (e45 _ _ hpl4) npf, b6 _ _ (e45 _ _ hsl4) nsf, b6 _ _ upd_same ndf, fun x hx => (by cases hx), rfl, List.nodup_nil, Nat.le_refl _, fun d hd => (by cases hd), by omega, F6, (b04.trans (.same e45)).trans b6⟩ (fun _ _ _ _ _ => trivial) ?_ ?_⟩
    · rintro i x _ _ H7 hi ⟨x6, ds, cls, t', rfl, hp7, hs7, hd7, nk7, ek, nd7, l7, ok7, ht', F7, b7⟩ ⟨rfl, rfl⟩
      rw [Int.toNat_natCast] at hi
      obtain ⟨a7, q7, hfe7⟩ := F7.ex
      refine ⟨_, rfl, _, rfl, _, rfl, fe, c, sl, xs, t', ns.take k, rfl, F7, lx, SqL.of hs7, ?_, ndn.sublist (List.take_sublist k ns), nsf, by omega, fun H8 y cl t8 clof dy ht8 F8 b8 => ?_⟩
      · rw [List.length_take]
        omega
      obtain ⟨av, zs, rfl, _, _⟩ := dp_tup dy
      have tk8 : Tk K H7 H8 := b8.tk hfe7
      have hd8 := b8 _ _ hd7 ndf
      have nk8 := NdK.tk nk7 tk8
      have tk9 : Tk K H8 (upd H8 dd (NDictO P w dd (ndPut ds (dC (srtE dL cl)) av (.bl true)))) := tk_nd hd8
      have lds : ds.length = cls.length := by have := congrArg List.length ek; simpa using this
      refine ⟨dd, ds, av, dC (srtE dL cl), rfl, rfl, hd8, nk8, dy, kd_dC _, Nat.lt_of_le_of_lt (show ds.length ≤ 12 by omega) (by decide), ?_⟩
      have wfn : WfC (srtE dL cl) ∧ ∀ l ∈ srtE dL cl, l.1 ∈ ns := ⟨clof.wf okn, fun l hl => (List.take_sublist k ns).subset (clof.names l (srtE_mem.mp hl))⟩
      have b9 : But fe H (upd H8 dd (NDictO P w dd (ndPut ds (dC (srtE dL cl)) av (.bl true)))) := fun b o e nb => by
        rw [upd_ne (ne_of_none e hddH)]
        exact b8 _ _ (b7 b o e nb) nb
      refine ⟨_, ndPut ds (dC (srtE dL cl)) av (.bl true), if srtE dL cl ∈ cls then cls else cls ++ [srtE dL cl], t8, rfl, by rw [upd_ne ndp]; exact b8 _ _ hp7 npf, by rw [upd_ne nds]; exact b8 _ _ hs7 nsf, upd_same, NdK.tk (nk8.put dy (kd_dC _)) tk9, nd_keys_put ek, ?_, ?_, ?_, by omega, F8.but .upd ndf.symm ndc.symm, b9⟩
      · split
        · exact nd7
        · rename_i z
          exact List.nodup_append.mpr ⟨nd7, by simp, fun a ha b hb e => z (by rw [← List.mem_singleton.mp hb, ← e]; exact ha)⟩
      · split
        · omega
        · rw [List.length_append, List.length_singleton]; omega
      · intro d hd
        split at hd
        · exact ok7 d hd
        · rcases List.mem_append.mp hd with q | q
          · exact ok7 d q
          · rw [List.mem_singleton.mp q]; exact wfn
    · rintro σ H7 ⟨x6, ds, cls, t', rfl, hp7, hs7, hd7, nk7, ek, nd7, l7, ok7, ht', F7, b7⟩
      rw [Int.toNat_natCast] at l7 ht'
      have lds : ds.length = cls.length := by have := congrArg List.length ek; simpa using this
      refine ⟨_, rfl, pl, _, rfl, .inl ⟨SqL.of hp7, fun y1 hy1 => ?_⟩⟩
      have s1 : Same H7 (upd H7 y1 (.tup (ns.map V.str))) := same_upd hy1
      have d1 : Dp K (upd H7 y1 (.tup (ns.map V.str))) (.ref y1) (dN ns) := dp_new hy1 (strs_dp ns)
      generalize upd H7 y1 (.tup (ns.map V.str)) = H8 at s1 d1
      have esnd : (ds.map fun x => (V.ref x.2.1, x.1)).map (·.2) = cls.map dC := by rw [List.map_map, ← ek]; rfl
      have nk8 := NdK.tk nk7 (.same s1)
      refine ⟨_, rfl, dd, ds, rfl, s1 _ _ hd7, nk8, by rw [ek]; exact sortOk_dC cls, fun p hp => ⟨p, _, rfl, .inl ⟨SqL.of upd_same, fun y2 hy2 => ?_⟩⟩⟩
      have da : DpAll K H8 ((srt (ds.map fun x => (V.ref x.2.1, x.1))).map (·.1)) ((srtE dC cls).map dC) := by
        have h := dpAll_map (K := K) (H := H8) (fun z : V × PyData => z.1) (fun z : V × PyData => z.2) (srt (ds.map fun x => (V.ref x.2.1, x.1))) fun z hz => by
          obtain ⟨x, hx, rfl⟩ := List.mem_map.mp ((srt_perm _).mem_iff.mp hz)
          exact (nk8 x hx).1
        rw [srt_snd, esnd, srtD_map] at h
        exact h
      have s2 : Same H8 (upd H8 p (.lst ((srt (ds.map fun x => (V.ref x.2.1, x.1))).map (·.1)))) := same_upd hp
      have d2 := dp_new hy2 (dpAllSame s2 _ _ da)
      have s3 := same_put (u := .tup ((srt (ds.map fun x => (V.ref x.2.1, x.1))).map (·.1))) s2 hy2
      refine ⟨Nat.succ_le_succ (Nat.succ_le_succ (Nat.zero_le _)), fun y3 hy3 => ?_⟩
      have s4 := same_upd (u := .tup [V.ref y1, .ref y2]) hy3
      have s14 := (s1.trans s3).trans s4
      refine kk _ (.ref y3) ns (srtE dC cls) t' (dp_new hy3 (.cons (dpSame s3 _ _ d1) (.cons d2 .nil))) sub (by omega) ⟨fun d hd => (ok7 d (srtE_mem.mp hd)).1, srtE_strict ordC nd7⟩ (by rw [srtE_len]; omega) (fun d hd l hl => (ok7 d (srtE_mem.mp hd)).2 l hl) (by omega) (F7.same s14) (b7.trans (.same s14))
end
end Wc
set_option maxRecDepth 100000
set_option maxHeartbeats 400000
/-! W47: the plain law: counts by rows, put, groups. -/
namespace Wc
open PySem PySem.Spec PyProof.Rows L2
open PySem.W (dataLt alike)
section
variable {α : Type} [DecidableEq α]
def setB (h : α → Bool) (n : α) (b : Bool) : α → Bool := fun m => if m = n then b else h m
def Cn : List α → ((α → Bool) → Bool) → Nat
  | [], f => if f (fun _ => false) = true then 1 else 0
  | n :: ns, f => Cn ns (fun h => f (setB h n false)) + Cn ns (fun h => f (setB h n true))
theorem setB_comm (h : α → Bool) {n m : α} (e : n ≠ m) (a b : Bool) : setB (setB h n a) m b = setB (setB h m b) n a := by
  funext k
  unfold setB
  by_cases h1 : k = m
  · by_cases h2 : k = n
    · exact absurd (h2.symm.trans h1) e
    · simp [h1, h2, Ne.symm e]
  · by_cases h2 : k = n
    · simp [h2, h1, e]
    · simp [h1, h2]
theorem Cn_perm {ns ms : List α} (p : ns.Perm ms) : ∀ f, Cn ns f = Cn ms f := by
  induction p with
  | nil => intro f; rfl
  | cons x _ ih => intro f; show _ + _ = _ + _; rw [ih, ih]
  | swap x y l =>
    intro f
    by_cases e : x = y
    · rw [e]
    · show (Cn l (fun h => f (setB (setB h x false) y false)) + Cn l (fun h => f (setB (setB h x true) y false))) + (Cn l (fun h => f (setB (setB h x false) y true)) + Cn l (fun h => f (setB (setB h x true) y true))) = (Cn l (fun h => f (setB (setB h y false) x false)) + Cn l (fun h => f (setB (setB h y true) x false))) + (Cn l (fun h => f (setB (setB h y false) x true)) + Cn l (fun h => f (setB (setB h y true) x true)))
      simp only [setB_comm _ e]
      omega
  | trans _ _ i1 i2 => intro f; rw [i1, i2]
/-- it hangs on some names alone -/
def Dep (ns : List α) (f : (α → Bool) → Bool) : Prop := ∀ h h' : α → Bool, (∀ n ∈ ns, h n = h' n) → f h = f h'
theorem Dep.set {ns : List α} {f : (α → Bool) → Bool} (d : Dep ns f) {n : α} (hn : n ∉ ns) (b : Bool) (h : α → Bool) : f (setB h n b) = f h := d _ _ fun m hm => by
  unfold setB
  rw [if_neg fun e => hn (by rw [← e]; exact hm)]
theorem Dep.mono {ns ms : List α} {f : (α → Bool) → Bool} (d : Dep ns f) (s : ∀ n ∈ ns, n ∈ ms) : Dep ms f := fun h h' e => d h h' fun n hn => e n (s n hn)
theorem Cn_two {ns ms : List α} {f : (α → Bool) → Bool} (d : Dep ns f) {n : α} (hn : n ∉ ns) : Cn (n :: ms) f = 2 * Cn ms f := by
  show Cn ms (fun h => f (setB h n false)) + Cn ms (fun h => f (setB h n true)) = _
  simp only [d.set hn]
  show Cn ms f + Cn ms f = _
  omega
theorem Cn_more {ns ms : List α} {f : (α → Bool) → Bool} (d : Dep ns f) : ∀ ex : List α, (∀ n ∈ ex, n ∉ ns) → Cn (ex ++ ms) f = Cn ms f * 2 ^ ex.length
  | [], _ => by simp
  | n :: ex, h => by
    rw [List.cons_append, Cn_two d (h n (by simp)), Cn_more d ex (fun m hm => h m (by simp [hm])), List.length_cons, Nat.pow_succ]
    rw [Nat.mul_comm 2, Nat.mul_assoc]
theorem nodup_perm_b {xs ys : List α} (h1 : xs.Nodup) (h2 : ys.Nodup) (h : ∀ a, a ∈ xs ↔ a ∈ ys) : xs.Perm ys := by
  rw [List.perm_iff_count]
  intro a
  rw [h1.count, h2.count]
  simp only [h a]
/-- more names than it hangs on -/
theorem Cn_wide {ns ms : List α} {f : (α → Bool) → Bool} (d : Dep ns f) (n1 : ns.Nodup) (n2 : ms.Nodup) (s : ∀ n ∈ ns, n ∈ ms) : Cn ms f = Cn ns f * 2 ^ (ms.filter fun n => !decide (n ∈ ns)).length := by
  rw [← Cn_more d (ms.filter fun n => !decide (n ∈ ns)) fun n hn => by simpa using (List.mem_filter.mp hn).2]
  refine Cn_perm (nodup_perm_b n2 ?_ fun a => ?_) f
  · refine List.nodup_append.mpr ⟨n2.filter _, n1, fun a ha b hb e => ?_⟩
    subst e
    have := (List.mem_filter.mp ha).2
    simp [hb] at this
  · simp only [List.mem_append, List.mem_filter]
    constructor
    · intro ha
      by_cases q : a ∈ ns
      · exact .inr q
      · exact .inl ⟨ha, by simp [q]⟩
    · rintro (h | h)
      · exact h.1
      · exact s a h
theorem Cn_false (ns : List α) : Cn ns (fun _ => false) = 0 := by
  induction ns with
  | nil => rfl
  | cons n ns ih => show Cn ns _ + Cn ns _ = 0; rw [ih]
theorem Cn_le : ∀ (ns : List α) (f : (α → Bool) → Bool), Cn ns f ≤ 2 ^ ns.length
  | [], f => by
    show (if _ then 1 else 0) ≤ 1
    split <;> omega
  | n :: ns, f => by
    have h1 := Cn_le ns (fun h => f (setB h n false))
    have h2 := Cn_le ns (fun h => f (setB h n true))
    show _ + _ ≤ 2 ^ (ns.length + 1)
    rw [Nat.pow_succ]
    omega
/-- a part that hangs on none of the names -/
theorem Cn_and_const (b : Bool) : ∀ (ns : List α) (f : (α → Bool) → Bool), Cn ns (fun h => b && f h) = (if b = true then 1 else 0) * Cn ns f
  | ns, f => by
    cases b with
    | true => simp
    | false => simp [Cn_false]
/-- two that have no name in common -/
theorem Cn_and {ms : List α} {g : (α → Bool) → Bool} (dg : Dep ms g) : ∀ (ns : List α) (f : (α → Bool) → Bool), Dep ns f → (∀ n ∈ ns, n ∉ ms) → Cn (ns ++ ms) (fun h => f h && g h) = Cn ns f * Cn ms g
  | [], f, df, _ => by
    have e : (fun h => f h && g h) = fun h => f (fun _ => false) && g h := by
      funext h
      rw [df h (fun _ => false) fun n hn => by cases hn]
    rw [List.nil_append, e, Cn_and_const]
    rfl
  | n :: ns, f, df, hd => by
    have st : ∀ b, Dep ns (fun h => f (setB h n b)) := fun b h h' e => df _ _ fun m hm => by
      unfold setB
      by_cases q : m = n
      · rw [if_pos q, if_pos q]
      · rw [if_neg q, if_neg q]
        exact e m ((List.mem_cons.mp hm).resolve_left q)
    have hd' : ∀ m ∈ ns, m ∉ ms := fun m hm => hd m (by simp [hm])
    have g0 : ∀ b h, g (setB h n b) = g h := fun b h => dg.set (hd n (by simp)) b h
    show Cn (ns ++ ms) (fun h => f (setB h n false) && g (setB h n false)) + Cn (ns ++ ms) (fun h => f (setB h n true) && g (setB h n true)) = (Cn ns (fun h => f (setB h n false)) + Cn ns (fun h => f (setB h n true))) * Cn ms g
    simp only [g0]
    rw [Cn_and dg ns _ (st false) hd', Cn_and dg ns _ (st true) hd', Nat.add_mul]
end
/-! ### rows and counts -/
theorem mem_names {cs : Cs} {n : Str} : n ∈ namesOf cs ↔ ∃ c ∈ cs, ∃ l ∈ c, l.1 = n := by
  unfold namesOf
  rw [srtE_mem, mem_nub, List.mem_flatMap]
  constructor
  · rintro ⟨c, hc, h⟩
    obtain ⟨l, hl, e⟩ := List.mem_map.mp h
    exact ⟨c, hc, l, hl, e⟩
  · rintro ⟨c, hc, l, hl, e⟩
    exact ⟨c, hc, List.mem_map.mpr ⟨l, hl, e⟩⟩
theorem names_nodup (cs : Cs) : (namesOf cs).Nodup := srtE_nodup.mpr (nub_nodup _)
theorem metS_iff {h : Str → Bool} {cs : Cs} : metS h cs = true ↔ ∀ c ∈ cs, metC h c = true := by
  unfold metS
  rw [List.all_eq_true]
theorem metC_iff {h : Str → Bool} {c : Cl} : metC h c = true ↔ ∃ l ∈ c, h l.1 = l.2 := by
  unfold metC
  rw [List.any_eq_true]
  simp only [beq_iff_eq]
theorem metS_dep (cs : Cs) : Dep (namesOf cs) (fun h => metS h cs) := fun h h' e => by
  have k : ∀ c ∈ cs, ∀ l ∈ c, h l.1 = h' l.1 := fun c hc l hl => e l.1 (mem_names.mpr ⟨c, hc, l, hl, rfl⟩)
  show metS h cs = metS h' cs
  rw [Bool.eq_iff_iff, metS_iff, metS_iff]
  constructor
  · intro a c hc
    obtain ⟨l, hl, q⟩ := metC_iff.mp (a c hc)
    exact metC_iff.mpr ⟨l, hl, by rw [← k c hc l hl]; exact q⟩
  · intro a c hc
    obtain ⟨l, hl, q⟩ := metC_iff.mp (a c hc)
    exact metC_iff.mpr ⟨l, hl, by rw [k c hc l hl]; exact q⟩
theorem hadOf_snoc {ns : List Str} {r : List Bool} {m : Str} {b : Bool} (hl : ns.length = r.length) (hm : m ∉ ns) : hadOf (ns ++ [m]) (r ++ [b]) = setB (hadOf ns r) m b := by
  funext n
  unfold hadOf setB
  rw [List.zip_append hl, List.lookup_append]
  by_cases e : n = m
  · subst e
    have h0 : (ns.zip r).lookup n = none := by
      rw [List.lookup_eq_none_iff]
      intro p hp
      have := (List.of_mem_zip hp).1
      simp only [bne_iff_ne, ne_eq, beq_eq_false_iff_ne]
      intro q
      exact hm (by rw [q]; exact this)
    rw [h0, if_pos rfl]
    simp
  · have eb : (n == m) = false := by simpa using e
    have h0 : ([m].zip [b]).lookup n = none := by simp [List.lookup, eb]
    rw [h0, if_neg e, Option.or_none]
theorem filter_two (p : List Bool → Bool) : ∀ xs : List (List Bool), ((xs.flatMap fun r => [r ++ [false], r ++ [true]]).filter p).length = (xs.filter fun r => p (r ++ [false])).length + (xs.filter fun r => p (r ++ [true])).length
  | [] => rfl
  | x :: xs => by
    have ih := filter_two p xs
    rw [List.flatMap_cons, List.filter_append, List.length_append, ih, List.filter_cons, List.filter_cons]
    cases h1 : p (x ++ [false]) <;> cases h2 : p (x ++ [true]) <;> simp [List.filter_cons, h1, h2] <;> omega
theorem rc_rev : ∀ (ms : List Str) (f : (Str → Bool) → Bool), ms.Nodup → ((truths ms.reverse.length).filter fun r => f (hadOf ms.reverse r)).length = Cn ms f
  | [], f, _ => by
    show ((truths 0).filter fun r => f (hadOf [] r)).length = if f (fun _ => false) = true then 1 else 0
    have e : hadOf [] [] = fun _ => false := rfl
    show ([[]].filter fun r => f (hadOf [] r)).length = _
    rw [List.filter_cons, e]
    split <;> rfl
  | m :: ms, f, nd => by
    obtain ⟨n1, n2⟩ := List.nodup_cons.mp nd
    have n1' : m ∉ ms.reverse := fun h => n1 (List.mem_reverse.mp h)
    rw [List.reverse_cons, List.length_append, List.length_singleton]
    show (((truths ms.reverse.length).flatMap fun r => [r ++ [false], r ++ [true]]).filter fun r => f (hadOf (ms.reverse ++ [m]) r)).length = Cn ms (fun h => f (setB h m false)) + Cn ms (fun h => f (setB h m true))
    rw [filter_two, ← rc_rev ms _ n2, ← rc_rev ms _ n2]
    have k : ∀ b, (truths ms.reverse.length).filter (fun r => f (hadOf (ms.reverse ++ [m]) (r ++ [b]))) = (truths ms.reverse.length).filter fun r => f (setB (hadOf ms.reverse r) m b) := fun b => by
      refine List.filter_congr fun r hr => ?_
      rw [hadOf_snoc (truths_row _ _ hr).symm n1']
    rw [k, k]
theorem rowsMet_Cn {ns : List Str} {cs : Cs} (nd : ns.Nodup) : rowsMet ns cs = Cn ns fun h => metS h cs := by
  have h := rc_rev ns.reverse (fun h => metS h cs) ((List.reverse_perm ns).nodup_iff.mpr nd)
  rw [List.reverse_reverse] at h
  unfold rowsMet
  rw [h]
  exact Cn_perm (List.reverse_perm ns) _
theorem mods_Cn (cs : Cs) : mods cs = Cn (namesOf cs) fun h => metS h cs := rowsMet_Cn (names_nodup cs)
/-- a name in no clause doubles -/
theorem rows_shown {ns : List Str} {cs : Cs} (nd : ns.Nodup) (hin : ∀ c ∈ cs, ∀ l ∈ c, l.1 ∈ ns) : rowsMet ns cs = mods cs * 2 ^ shownW ns cs := by
  rw [rowsMet_Cn nd, mods_Cn]
  exact Cn_wide (metS_dep cs) (names_nodup cs) nd fun n hn => by
    obtain ⟨c, hc, l, hl, rfl⟩ := mem_names.mp hn
    exact hin c hc l hl
/-! ### put -/
theorem mem_put {cs : Cs} {l : Lit} {c : Cl} : c ∈ putC cs l ↔ ∃ d ∈ cs, l ∉ d ∧ (d.filter fun x => !decide (x = ctr l)) = c := by
  unfold putC
  rw [srtE_mem, mem_nub, List.mem_map]
  constructor
  · rintro ⟨d, hd, e⟩
    obtain ⟨h1, h2⟩ := List.mem_filter.mp hd
    exact ⟨d, h1, by simpa using h2, e⟩
  · rintro ⟨d, h1, h2, e⟩
    exact ⟨d, List.mem_filter.mpr ⟨h1, by simpa using h2⟩, e⟩
theorem lit_two {x l : Lit} (h : x.1 = l.1) : x = l ∨ x = ctr l := by
  obtain ⟨n, b⟩ := l
  obtain ⟨m, a⟩ := x
  have h' : m = n := h
  subst h'
  unfold ctr
  cases a <;> cases b <;> simp
theorem put_name {cs : Cs} {l : Lit} {n : Str} (h : n ∈ namesOf (putC cs l)) : n ∈ namesOf cs ∧ n ≠ l.1 := by
  obtain ⟨c, hc, x, hx, rfl⟩ := mem_names.mp h
  obtain ⟨d, hd, hl, rfl⟩ := mem_put.mp hc
  obtain ⟨h1, h2⟩ := List.mem_filter.mp hx
  refine ⟨mem_names.mpr ⟨d, hd, x, h1, rfl⟩, fun e => ?_⟩
  rcases lit_two e with q | q
  · exact hl (by rw [← q]; exact h1)
  · simp [q] at h2
theorem met_put (cs : Cs) (l : Lit) (h : Str → Bool) : metS (setB h l.1 l.2) cs = metS h (putC cs l) := by
  rw [Bool.eq_iff_iff, metS_iff, metS_iff]
  have off : ∀ x : Lit, x.1 ≠ l.1 → setB h l.1 l.2 x.1 = h x.1 := fun x e => by
    unfold setB
    rw [if_neg e]
  constructor
  · intro a c hc
    obtain ⟨d, hd, hl, rfl⟩ := mem_put.mp hc
    obtain ⟨x, hx, q⟩ := metC_iff.mp (a d hd)
    have ne : x.1 ≠ l.1 := fun e => by
      rcases lit_two e with z | z
      · exact hl (by rw [← z]; exact hx)
      · subst z
        have q2 : setB h l.1 l.2 l.1 = !l.2 := q
        unfold setB at q2
        rw [if_pos rfl] at q2
        cases hb : l.2 <;> rw [hb] at q2 <;> cases q2
    refine metC_iff.mpr ⟨x, List.mem_filter.mpr ⟨hx, ?_⟩, by rw [← off x ne]; exact q⟩
    simp only [Bool.not_eq_true', decide_eq_false_iff_not]
    intro z
    exact ne (by rw [z]; rfl)
  · intro a d hd
    by_cases hl : l ∈ d
    · refine metC_iff.mpr ⟨l, hl, ?_⟩
      unfold setB
      rw [if_pos rfl]
    · obtain ⟨x, hx, q⟩ := metC_iff.mp (a _ (mem_put.mpr ⟨d, hd, hl, rfl⟩))
      obtain ⟨h1, h2⟩ := List.mem_filter.mp hx
      have ne : x.1 ≠ l.1 := fun e => by
        rcases lit_two e with z | z
        · exact hl (by rw [← z]; exact h1)
        · simp [z] at h2
      exact metC_iff.mpr ⟨x, h1, by rw [off x ne]; exact q⟩
theorem mods_split {cs : Cs} {n : Str} (hn : n ∈ namesOf cs) : mods cs = Cn ((namesOf cs).filter fun m => decide (m ≠ n)) (fun h => metS (setB h n false) cs) + Cn ((namesOf cs).filter fun m => decide (m ≠ n)) (fun h => metS (setB h n true) cs) := by
  rw [mods_Cn]
  show _ = Cn (n :: (namesOf cs).filter fun m => decide (m ≠ n)) fun h => metS h cs
  refine Cn_perm (nodup_perm (names_nodup cs) (List.nodup_cons.mpr ⟨fun h => ?_, (names_nodup cs).filter _⟩) fun a => ?_) _
  · simpa using (List.mem_filter.mp h).2
  · rw [List.mem_cons, List.mem_filter]
    constructor
    · intro ha
      by_cases e : a = n
      · exact .inl e
      · exact .inr ⟨ha, decide_eq_true e⟩
    · rintro (e | e)
      · rw [e]; exact hn
      · exact e.1
theorem side_put (cs : Cs) (l : Lit) : Cn ((namesOf cs).filter fun m => decide (m ≠ l.1)) (fun h => metS (setB h l.1 l.2) cs) = mods (putC cs l) * lostW cs l (putC cs l) := by
  have e : (fun h => metS (setB h l.1 l.2) cs) = fun h => metS h (putC cs l) := funext fun h => met_put cs l h
  rw [e, Cn_wide (metS_dep _) (names_nodup _) ((names_nodup cs).filter _) fun n hn => List.mem_filter.mpr ⟨(put_name hn).1, decide_eq_true (put_name hn).2⟩, List.filter_filter, ← mods_Cn]
  unfold lostW lostN
  have e2 : (fun a => !decide (a ∈ namesOf (putC cs l)) && decide (a ≠ l.1)) = fun a => decide (a ≠ l.1) && !decide (a ∈ namesOf (putC cs l)) := funext fun a => Bool.and_comm _ _
  rw [e2]
theorem side_none {cs : Cs} {l : Lit} (h : [l] ∈ cs) (ns : List Str) : Cn ns (fun h => metS (setB h l.1 (!l.2)) cs) = 0 := by
  have e : (fun h => metS (setB h l.1 (!l.2)) cs) = fun _ => false := funext fun g => by
    rw [Bool.eq_false_iff]
    intro q
    obtain ⟨x, hx, z⟩ := metC_iff.mp (metS_iff.mp q _ h)
    obtain rfl := List.mem_singleton.mp hx
    unfold setB at z
    rw [if_pos rfl] at z
    cases hb : x.2 <;> rw [hb] at z <;> cases z
  rw [e, Cn_false]
theorem mods_unit {cs : Cs} {l : Lit} (h : [l] ∈ cs) : mods cs = mods (putC cs l) * lostW cs l (putC cs l) := by
  have hn : l.1 ∈ namesOf cs := mem_names.mpr ⟨_, h, l, by simp, rfl⟩
  rw [mods_split hn, ← side_put]
  have z := side_none h ((namesOf cs).filter fun m => decide (m ≠ l.1))
  cases hb : l.2 with
  | false =>
    rw [hb] at z
    have z' : Cn ((namesOf cs).filter fun m => decide (m ≠ l.1)) (fun h => metS (setB h l.1 true) cs) = 0 := z
    rw [z']
    rfl
  | true =>
    rw [hb] at z
    have z' : Cn ((namesOf cs).filter fun m => decide (m ≠ l.1)) (fun h => metS (setB h l.1 false) cs) = 0 := z
    rw [z', Nat.zero_add]
theorem mods_two {cs : Cs} {n : Str} (hn : n ∈ namesOf cs) : mods cs = mods (putC cs (n, false)) * lostW cs (n, false) (putC cs (n, false)) + mods (putC cs (n, true)) * lostW cs (n, true) (putC cs (n, true)) := by
  rw [mods_split hn, ← side_put, ← side_put]
theorem wf_sub {c d : Cl} (h : WfC c) (s : d.Sublist c) : WfC d := ⟨fun l hl => h.ok l (s.subset hl), h.ris.sublist (s.map _)⟩
theorem put_wf {cs : Cs} {l : Lit} (h : WfS cs) (hl : cs.length ≤ 12) : WfS (putC cs l) ∧ (putC cs l).length ≤ 12 := by
  refine ⟨⟨fun c hc => ?_, srtE_strict ordC (nub_nodup _)⟩, ?_⟩
  · obtain ⟨d, hd, _, rfl⟩ := mem_put.mp hc
    exact wf_sub (h.all d hd) List.filter_sublist
  · unfold putC
    rw [srtE_len]
    refine Nat.le_trans (nub_len _) ?_
    rw [List.length_map]
    exact Nat.le_trans (List.length_filter_le _ _) hl
theorem put_names {cs : Cs} {l : Lit} (h : l.1 ∈ namesOf cs) : (namesOf (putC cs l)).length < (namesOf cs).length := by
  have := nodup_sub_len (xs := l.1 :: namesOf (putC cs l)) (ys := namesOf cs) (List.nodup_cons.mpr ⟨fun q => (put_name q).2 rfl, names_nodup _⟩) fun x hx => by
    rcases List.mem_cons.mp hx with e | e
    · rw [e]; exact h
    · exact (put_name e).1
  rw [List.length_cons] at this
  omega
/-! ### groups -/
structure GI (gs : List Gp) (cs : Cs) : Prop where
  perm : (gs.flatMap (·.2)).Perm cs
  names : ∀ g ∈ gs, ∀ n, n ∈ g.1 ↔ ∃ c ∈ g.2, ∃ l ∈ c, l.1 = n
  dis : gs.Pairwise fun g h => ∀ n ∈ g.1, n ∉ h.1
  ne : ∀ g ∈ gs, g.2 ≠ []
theorem pw_ne {α : Type} {R : α → α → Prop} (sy : ∀ a b, R a b → R b a) : ∀ {l : List α}, l.Pairwise R → ∀ {a b : α}, a ∈ l → b ∈ l → a ≠ b → R a b
  | x :: l, h, a, b, ha, hb, n => by
    obtain ⟨h1, h2⟩ := List.pairwise_cons.mp h
    rcases List.mem_cons.mp ha with e | e
    · rcases List.mem_cons.mp hb with e' | e'
      · exact absurd (e.trans e'.symm) n
      · rw [e]; exact h1 b e'
    · rcases List.mem_cons.mp hb with e' | e'
      · rw [e']; exact sy _ _ (h1 a e)
      · exact pw_ne sy h2 e e' n
theorem near_iff {ns : List Str} {g : Gp} : nearB ns g = true ↔ ∃ n ∈ ns, n ∈ g.1 := by
  unfold nearB
  rw [List.any_eq_true]
  simp only [decide_eq_true_eq]
theorem GI.step {gs : List Gp} {cs : Cs} (h : GI gs cs) (c : Cl) : GI (stepG gs c) (cs ++ [c]) := by
  have sym : ∀ a b : Gp, (∀ n ∈ a.1, n ∉ b.1) → ∀ n ∈ b.1, n ∉ a.1 := fun a b q n hb ha => q n ha hb
  unfold stepG
  refine ⟨?_, fun g hg n => ?_, ?_, fun g hg => ?_⟩
  · rw [List.flatMap_append, List.flatMap_singleton, ← List.append_assoc]
    refine List.Perm.append_right _ ?_
    rw [← List.flatMap_append, far_eq]
    refine List.Perm.trans ?_ h.perm
    refine List.Perm.flatMap_right _ ?_
    refine List.Perm.trans List.perm_append_comm ?_
    exact List.filter_append_perm _ gs
  · rcases List.mem_append.mp hg with e | e
    · exact h.names g (far_not.mp e).1 n
    · rw [List.mem_singleton.mp e]
      show n ∈ (nearG gs (c.map (·.1))).foldl (fun ns g => ns ++ g.1) (c.map (·.1)) ↔ ∃ d ∈ (nearG gs (c.map (·.1))).flatMap (·.2) ++ [c], ∃ l ∈ d, l.1 = n
      rw [mem_foldl_app, List.mem_map]
      constructor
      · rintro (⟨l, hl, e⟩ | ⟨k, hk, hn⟩)
        · exact ⟨c, by simp, l, hl, e⟩
        · obtain ⟨d, hd, q⟩ := (h.names k (List.mem_filter.mp hk).1 n).mp hn
          exact ⟨d, List.mem_append.mpr (.inl (List.mem_flatMap.mpr ⟨k, hk, hd⟩)), q⟩
      · rintro ⟨d, hd, l, hl, e⟩
        rcases List.mem_append.mp hd with q | q
        · obtain ⟨k, hk, hd⟩ := List.mem_flatMap.mp q
          exact .inr ⟨k, hk, (h.names k (List.mem_filter.mp hk).1 n).mpr ⟨d, hd, l, hl, e⟩⟩
        · rw [List.mem_singleton.mp q] at hl
          exact .inl ⟨l, hl, e⟩
  · rw [List.pairwise_append]
    refine ⟨?_, List.pairwise_singleton _ _, fun g hg k hk n hn hm => ?_⟩
    · rw [far_eq]
      exact h.dis.sublist List.filter_sublist
    · obtain rfl := List.mem_singleton.mp hk
      obtain ⟨g1, g2⟩ := far_not.mp hg
      rcases mem_foldl_app.mp hm with q | ⟨k, hk, q⟩
      · have := near_iff.mpr ⟨n, q, hn⟩
        rw [g2] at this
        cases this
      · obtain ⟨k1, k2⟩ := List.mem_filter.mp hk
        exact pw_ne sym h.dis g1 k1 (fun e => by rw [e, k2] at g2; cases g2) n hn q
  · rcases List.mem_append.mp hg with e | e
    · exact h.ne g (far_not.mp e).1
    · obtain rfl := List.mem_singleton.mp e
      exact List.append_ne_nil_of_right_ne_nil _ (by simp)
theorem GI.fold : ∀ (cs ds : Cs) (gs : List Gp), GI gs ds → GI (cs.foldl stepG gs) (ds ++ cs)
  | [], ds, gs, h => by rw [List.append_nil]; exact h
  | c :: cs, ds, gs, h => by
    have := GI.fold cs (ds ++ [c]) (stepG gs c) (h.step c)
    rw [List.append_assoc] at this
    exact this
theorem GI.of (cs : Cs) : GI (sortG (cs.foldl stepG [])) cs := by
  have h := GI.fold cs [] [] ⟨List.Perm.refl _, fun g hg => (by cases hg), .nil, fun g hg => (by cases hg)⟩
  rw [List.nil_append] at h
  have p : (sortG (cs.foldl stepG [])).Perm (cs.foldl stepG []) := List.mergeSort_perm _ _
  refine ⟨(List.Perm.flatMap_right _ p).trans h.perm, fun g hg => h.names g (p.mem_iff.mp hg), ?_, fun g hg => h.ne g (p.mem_iff.mp hg)⟩
  exact (p.pairwise_iff fun q n hb ha => q n ha hb).mpr h.dis
/-- what groups are -/
structure GL (gl : List Cs) (cs : Cs) : Prop where
  perm : gl.flatten.Perm cs
  dis : gl.Pairwise fun g h => ∀ n ∈ namesOf g, n ∉ namesOf h
  ne : ∀ g ∈ gl, g ≠ []
theorem perm_flat_map {α : Type} (f : Gp → List α) (g : Gp → List α) (h : ∀ x, (g x).Perm (f x)) : ∀ gs : List Gp, ((gs.map g).flatten).Perm (gs.flatMap f)
  | [] => List.Perm.refl _
  | x :: gs => by
    rw [List.map_cons, List.flatten_cons, List.flatMap_cons]
    exact List.Perm.append (h x) (perm_flat_map f g h gs)
theorem groups_GL (cs : Cs) : GL (groupsC cs) cs := by
  have h := GI.of cs
  unfold groupsC
  generalize sortG (cs.foldl stepG []) = gs at h
  have nm : ∀ g ∈ gs, ∀ n, n ∈ namesOf (srtE dC g.2) ↔ n ∈ g.1 := fun g hg n => by
    rw [h.names g hg n, mem_names]
    simp only [srtE_mem]
  refine ⟨(perm_flat_map (·.2) _ (fun x => srtE_perm _) gs).trans h.perm, ?_, fun g hg => ?_⟩
  · rw [List.pairwise_map]
    refine List.Pairwise.imp_of_mem ?_ h.dis
    intro a b ha hb q n hn hm
    exact q n ((nm a ha n).mp hn) ((nm b hb n).mp hm)
  · obtain ⟨k, hk, rfl⟩ := List.mem_map.mp hg
    intro e
    have := srtE_len (f := dC) k.2
    rw [e] at this
    exact h.ne k hk (List.eq_nil_of_length_eq_zero this.symm)
theorem GL.mem {gl : List Cs} {cs : Cs} (h : GL gl cs) {c : Cl} : c ∈ cs ↔ ∃ g ∈ gl, c ∈ g := by
  rw [← h.perm.mem_iff, List.mem_flatten]
theorem GL.nodup : ∀ {gl : List Cs}, (gl.Pairwise fun g h => ∀ n ∈ namesOf g, n ∉ namesOf h) → (gl.flatMap namesOf).Nodup
  | [], _ => List.nodup_nil
  | g :: gl, h => by
    obtain ⟨h1, h2⟩ := List.pairwise_cons.mp h
    rw [List.flatMap_cons]
    refine List.nodup_append.mpr ⟨names_nodup g, GL.nodup h2, fun a ha b hb e => ?_⟩
    obtain ⟨k, hk, q⟩ := List.mem_flatMap.mp hb
    exact h1 k hk a ha (by rw [e]; exact q)
theorem GL.names {gl : List Cs} {cs : Cs} (h : GL gl cs) : (namesOf cs).Perm (gl.flatMap namesOf) := by
  refine nodup_perm (names_nodup cs) (GL.nodup h.dis) fun a => ?_
  rw [mem_names, List.mem_flatMap]
  constructor
  · rintro ⟨c, hc, q⟩
    obtain ⟨g, hg, hc⟩ := h.mem.mp hc
    exact ⟨g, hg, mem_names.mpr ⟨c, hc, q⟩⟩
  · rintro ⟨g, hg, q⟩
    obtain ⟨c, hc, q⟩ := mem_names.mp q
    exact ⟨c, h.mem.mpr ⟨g, hg, hc⟩, q⟩
def prodM : List Cs → Nat
  | [] => 1
  | g :: gl => mods g * prodM gl
theorem Cn_groups : ∀ {gl : List Cs}, (gl.Pairwise fun g h => ∀ n ∈ namesOf g, n ∉ namesOf h) → Cn (gl.flatMap namesOf) (fun h => gl.all fun g => metS h g) = prodM gl
  | [], _ => rfl
  | g :: gl, h => by
    obtain ⟨h1, h2⟩ := List.pairwise_cons.mp h
    have dg : Dep (gl.flatMap namesOf) (fun h => gl.all fun g => metS h g) := fun a b e => by
      show (gl.all fun g => metS a g) = gl.all fun g => metS b g
      rw [Bool.eq_iff_iff, List.all_eq_true, List.all_eq_true]
      have k : ∀ g ∈ gl, metS a g = metS b g := fun g hg => metS_dep g a b fun n hn => e n (List.mem_flatMap.mpr ⟨g, hg, hn⟩)
      exact ⟨fun q g hg => by rw [← k g hg]; exact q g hg, fun q g hg => by rw [k g hg]; exact q g hg⟩
    rw [List.flatMap_cons]
    show Cn (namesOf g ++ gl.flatMap namesOf) (fun h => metS h g && gl.all fun g => metS h g) = _
    rw [Cn_and dg (namesOf g) _ (metS_dep g) fun n hn hm => ?_, Cn_groups h2, ← mods_Cn]
    · rfl
    · obtain ⟨k, hk, q⟩ := List.mem_flatMap.mp hm
      exact h1 k hk n hn q
theorem mods_groups (cs : Cs) : mods cs = prodM (groupsC cs) := by
  have h := groups_GL cs
  rw [mods_Cn, Cn_perm h.names, ← Cn_groups h.dis]
  congr 1
  funext g
  rw [Bool.eq_iff_iff, metS_iff, List.all_eq_true]
  constructor
  · intro q k hk
    exact metS_iff.mpr fun c hc => q c (h.mem.mpr ⟨k, hk, hc⟩)
  · intro q c hc
    obtain ⟨k, hk, hc⟩ := h.mem.mp hc
    exact metS_iff.mp (q k hk) c hc
theorem foldl_prodM : ∀ (gl : List Cs) (a : Nat), gl.foldl (fun acc g => acc * mods g) a = a * prodM gl
  | [], a => (Nat.mul_one a).symm
  | g :: gl, a => by
    rw [List.foldl_cons, foldl_prodM gl]
    show _ = a * (mods g * prodM gl)
    rw [Nat.mul_assoc]
theorem sub_flatten {α : Type} : ∀ {gl : List (List α)} {g : List α}, g ∈ gl → g.Sublist gl.flatten
  | x :: gl, g, h => by
    rw [List.flatten_cons]
    rcases List.mem_cons.mp h with e | e
    · rw [e]; exact List.sublist_append_left _ _
    · exact (sub_flatten e).trans (List.sublist_append_right _ _)
theorem len_flatten {α : Type} : ∀ {gl : List (List α)}, (∀ g ∈ gl, g ≠ []) → gl.length ≤ gl.flatten.length
  | [], _ => Nat.le_refl _
  | x :: gl, h => by
    have := len_flatten (gl := gl) fun g hg => h g (by simp [hg])
    have := List.length_pos_iff.mpr (h x (by simp))
    rw [List.flatten_cons, List.length_append, List.length_cons]
    omega
theorem grp_wf {cs : Cs} (h : WfS cs) (hl : cs.length ≤ 12) : (groupsC cs).length ≤ 12 ∧ ∀ c ∈ groupsC cs, WfS c ∧ c.length ≤ 12 := by
  have q := groups_GL cs
  have ll := q.perm.length_eq
  have nd : (groupsC cs).flatten.Nodup := q.perm.nodup_iff.mpr (nodup_of_ris h.ris)
  refine ⟨?_, fun c hc => ⟨⟨fun d hd => h.all d (q.mem.mpr ⟨c, hc, hd⟩), ?_⟩, ?_⟩⟩
  · have := len_flatten q.ne
    omega
  · unfold groupsC at hc
    obtain ⟨g, hg, e⟩ := List.mem_map.mp hc
    have n2 : c.Nodup := nd.sublist (sub_flatten hc)
    rw [← e] at n2 ⊢
    exact srtE_strict ordC (srtE_nodup.mp n2)
  · have := (sub_flatten hc).length_le
    omega
theorem grp_names {cs : Cs} (h : [] ∉ cs) : (∀ c ∈ groupsC cs, 1 ≤ (namesOf c).length) ∧ ((groupsC cs).map fun c => (namesOf c).length).sum ≤ (namesOf cs).length := by
  have q := groups_GL cs
  refine ⟨fun c hc => ?_, ?_⟩
  · obtain ⟨d, hd⟩ := List.exists_mem_of_ne_nil _ (q.ne c hc)
    have dn : d ≠ [] := fun e => h (by rw [← e]; exact q.mem.mpr ⟨c, hc, hd⟩)
    obtain ⟨l, hl⟩ := List.exists_mem_of_ne_nil _ dn
    exact List.length_pos_of_mem (mem_names.mpr ⟨d, hd, l, hl, rfl⟩)
  · rw [q.names.length_eq, List.length_flatMap]
    exact Nat.le_refl _
/-! ### the plain law -/
theorem names_ok {cs : Cs} (h : WfS cs) : ∀ n ∈ namesOf cs, n ∈ pool := fun n hn => by
  obtain ⟨c, hc, l, hl, rfl⟩ := mem_names.mp hn
  exact h.ok c hc l hl
theorem plainLaw : PlainLaw where
  putWf cs l h hl := put_wf h hl
  putNames cs l h := put_names h
  grpWf cs h hl := grp_wf h hl
  grpNames cs _ h := grp_names h
  namesNe cs h1 h2 := by
    obtain ⟨d, hd⟩ := List.exists_mem_of_ne_nil _ h1
    have dn : d ≠ [] := fun e => h2 (by rw [← e]; exact hd)
    obtain ⟨l, hl⟩ := List.exists_mem_of_ne_nil _ dn
    exact List.ne_nil_of_mem (mem_names.mpr ⟨d, hd, l, hl, rfl⟩)
  unitName cs l h := mem_names.mpr ⟨_, h, l, by simp, rfl⟩
  namesOk cs h := names_ok h
  count rows cs ru wf h sem hw := by
    have at' : ∀ i ∈ wanted ru, (rowAt rows i).cnt = mods (rowAt rows i).cs := fun i hi => sem _ (rowAt_mem (hw i hi))
    cases ru with
    | void =>
      have h0 : [] ∈ cs := h
      show 0 = mods cs
      rw [mods_Cn]
      have e : (fun g => metS g cs) = fun _ => false := funext fun g => by
        rw [Bool.eq_false_iff]
        intro q
        obtain ⟨x, hx, _⟩ := metC_iff.mp (metS_iff.mp q _ h0)
        cases hx
      rw [e, Cn_false]
    | free =>
      have h0 : cs = [] := h
      subst h0
      show 1 = mods []
      rw [mods_groups]
      have : groupsC [] = [] := by
        have q := (grp_wf (cs := []) ⟨fun c hc => (by cases hc), .nil⟩ (by decide)).1
        have := (groups_GL []).perm.length_eq
        have l2 := len_flatten (groups_GL []).ne
        exact List.eq_nil_of_length_eq_zero (by rw [List.length_nil] at this; omega)
      rw [this]
      rfl
    | unit l i =>
      have h1 : [l] ∈ cs := h.1
      show (rowAt rows i).cnt * lostW cs l (rowAt rows i).cs = mods cs
      rw [at' i (by simp [wanted]), h.2, mods_unit h1]
    | parts rs =>
      have h0 : rs.map (fun i => (rowAt rows i).cs) = groupsC cs := h
      show rs.foldl (fun acc i => acc * (rowAt rows i).cnt) 1 = mods cs
      rw [mods_groups, ← h0, ← Nat.one_mul (prodM _), ← foldl_prodM, List.foldl_map]
      have k : ∀ (rs' : List Nat) (a : Nat), (∀ i ∈ rs', i ∈ rs) → rs'.foldl (fun acc i => acc * (rowAt rows i).cnt) a = rs'.foldl (fun acc i => acc * mods (rowAt rows i).cs) a := fun rs' => by
        induction rs' with
        | nil => intro a _; rfl
        | cons i rs' ih =>
          intro a hs
          rw [List.foldl_cons, List.foldl_cons, ih _ fun j hj => hs j (by simp [hj]), at' i (hs i (by simp))]
      exact k rs 1 fun i hi => hi
    | split n i j =>
      show (rowAt rows i).cnt * lostW cs (n, false) (rowAt rows i).cs + (rowAt rows j).cnt * lostW cs (n, true) (rowAt rows j).cs = mods cs
      rw [at' i (by simp [wanted]), at' j (by simp [wanted]), h.2.1, h.2.2, ← mods_two h.1]
  modsLt cs h := by
    have h1 := Cn_le (namesOf cs) fun g => metS g cs
    rw [← mods_Cn] at h1
    have h2 : (namesOf cs).length ≤ pool.length := nodup_sub_len (names_nodup cs) (names_ok h)
    have h3 : (2 : Nat) ^ (namesOf cs).length ≤ 2 ^ 12 := Nat.pow_le_pow_right (by decide) h2
    exact Nat.lt_of_le_of_lt (Nat.le_trans h1 h3) (by decide)
end Wc
set_option maxRecDepth 100000
set_option maxHeartbeats 400000
/-! W48: law. -/
namespace Wc
open PySem PySem.Spec PyProof.Rows L2
open PySem.W (dataLt alike)
/-- a form as the law draws it -/
structure FmOk (ns : List Str) (cs : Cs) : Prop where
  nd : ns.Nodup
  len : ns.length ≤ 7
  wf : WfS cs
  few : cs.length ≤ 12
  names : ∀ c ∈ cs, ∀ l ∈ c, l.1 ∈ ns
theorem FmOk.lt {ns : List Str} {cs : Cs} (h : FmOk ns cs) : (namesOf cs).length < 8 := by
  have := nodup_sub_len (xs := namesOf cs) (ys := ns) (names_nodup cs) fun n hn => by
    obtain ⟨c, hc, l, hl, rfl⟩ := mem_names.mp hn
    exact h.names c hc l hl
  have := h.len
  omega
theorem FmOk.rows {ns : List Str} {cs : Cs} (h : FmOk ns cs) : rowsMet ns cs = mods cs * 2 ^ shownW ns cs := rows_shown h.nd h.names
theorem pool_nd : pool.Nodup := by decide +kernel
theorem FmOk.of {ns : List Str} {cs : Cs} (s : ns.Sublist pool) (l : ns.length ≤ 7) (wf : WfS cs) (few : cs.length ≤ 12) (h : ∀ c ∈ cs, ∀ l ∈ c, l.1 ∈ ns) : FmOk ns cs := ⟨pool_nd.sublist s, l, wf, few, h⟩
theorem FmOk.e0 : FmOk [] [] := ⟨.nil, Nat.zero_le _, ⟨fun c hc => (by cases hc), .nil⟩, Nat.zero_le _, fun c hc => (by cases hc)⟩
theorem FmOk.e1 : FmOk [] [[]] := ⟨.nil, Nat.zero_le _, ⟨fun c hc => by rw [List.mem_singleton.mp hc]; exact ⟨fun l hl => (by cases hl), .nil⟩, List.pairwise_singleton _ _⟩, by decide, fun c hc l hl => by rw [List.mem_singleton.mp hc] at hl; cases hl⟩
abbrev Fm := List Str × Cs
def dFm (f : Fm) : PyData := dF f.1 f.2
theorem nl_dF (ns : List Str) (cs : Cs) : noLst (dF ns cs) = true := by
  show noLstAll [dN ns, dS cs] = true
  simp only [noLstAll, nl_dN, nl_dS, Bool.and_self]
theorem nl_dFm (fs : List Fm) : noLstAll (fs.map dFm) = true := nl_map (f := dFm) (fun f : Fm => nl_dF f.1 f.2) fs
theorem tabs_but {T : List (Addr × Str)} {fe : Addr} {xs : List V} {H H' : Hp} (t : LamX.Tabs T H) (b : But fe H H') (h : H fe = some (.lst xs)) : LamX.Tabs T H' := by
  intro p hp
  obtain ⟨ps, e1, e2, e3⟩ := t p hp
  refine ⟨ps, b _ _ e1 (fun z => by rw [z, h] at e1; cases e1), e2, fun pos cv hc => ?_⟩
  obtain ⟨c, e4, e5⟩ := e3 pos cv hc
  exact ⟨c, e4, b _ _ e5 (fun z => by rw [z, h] at e5; cases e5)⟩
theorem sh_ints (xs : List Int) : SeqAt.shaped (.list (xs.map .int)) = true := sh_of (n := 1) (canLayAll_all fun d hd => by
  obtain ⟨x, _, rfl⟩ := List.mem_map.mp hd
  rfl) (dp_lmap (n := 0) (fun _ => Nat.zero_le _) xs) (by decide)
section
variable {P : Program} {w : World} {K : PySem.W.Frag} {mg : Str → Option Value} {base : Heap} {f f1 f2 f3 f4 f5 f6 fI fA C C2 : Addr} {fd fd1 fd2 fd3 fd4 fd5 fd6 fdI fdA : FuncData} {T : List (Addr × Str)}
def spLaw (K : PySem.W.Frag) (T : List (Addr × Str)) : Sp := fun vs H Q _ => ∃ (a : Addr) (xs : List Int), vs = [.ref a] ∧ SqL K H a (xs.map V.int) ∧ LamX.Tabs T H ∧ ∀ H', Q (.bl true) H'
abbrev nLaw : List Str := ["_law_script", "_law_feed_here", "_law_forms", "_law_keeper", "_law_form_here", "_law_many", "_law_found"]
theorem scLaw : FnScope nLaw ["_law_script"] (defScope sLaw) := ⟨rfl, rfl, rfl, by decide +kernel, rfl, by decide +kernel, by decide +kernel⟩
theorem ok_law {ds4 ds5 dsA : List Value} (B : Blt mg) (CT' : CT K C2)
    (G1 : FnOk P w K mg base CX0 1 f1 fd1 ["_law_script"] (spFeed K)) (D1 : Df K mg "_law_feed" sLFeed ["_law_script"] f1 fd1)
    (G2 : FnOk P w K mg base CX0 3 f2 fd2 ["_law_feed_here", "_law_names", "_law_clauses"] (spLForm K)) (D2 : Df K mg "_law_form" sLForm ["_law_feed_here", "_law_names", "_law_clauses"] f2 fd2)
    (G3 : FnOk P w K mg base CX0 2 f3 fd3 ["_law_form_here"] (spLCount K)) (D3 : Df K mg "_law_count" sLCount ["_law_form_here"] f3 fd3)
    (G4 : FnOk P w K mg base CX0 31 f4 fd4 ["form", "most"] (spCounted K T)) (m4 : mg "counted" = some (.ref f4)) (k4 : PySem.W.keepIn K (.ref f4) = true) (b4 : Binds K fd4 ["form", "most"] ds4) (v4 : Vals [V.int 4000] ds4)
    (G5 : FnOk P w K mg base CX0 30 f5 fd5 ["form", "most"] (spTrailOf K T)) (m5 : mg "trail_of" = some (.ref f5)) (k5 : PySem.W.keepIn K (.ref f5) = true) (b5 : Binds K fd5 ["form", "most"] ds5) (v5 : Vals [V.int 4000] ds5)
    (G6 : FnOk P w K mg base CX0 7 f6 fd6 ["form", "thing"] (spLetsTrail K)) (D6 : Df K mg "lets_trail" sLetsTrail ["form", "thing"] f6 fd6)
    (hgC : mg "Counter" = some (.ref C2)) (MK : Mk K C2 fI) (GI : FnOk P w K mg base CX0 3 fI fdI ["self"] (spCInit P w K C C2)) (bI : Binds K fdI ["self"] [])
    (GA : FnOk P w K mg base CX0 30 fA fdA ["self", "form", "most"] (spAsk P w K C C2 T)) (mA : Meth K C2 "ask" fA) (bA : Binds K fdA ["self", "form", "most"] dsA) (vA : Vals [V.int 4000] dsA)
    {dvs : List V} {kws : List (Str × V)} (F : FunD K "law" "law" (defArgs sLaw) (defBody sLaw) (defScope sLaw) dvs kws f fd) : FnOk P w K mg base CX0 32 f fd ["_law_script"] (spLaw K T) := by
  refine FunD.okN F scLaw (fun vs H Q E h => ?_) (fun cdv A outer s H vs Q E hr h => ?_)
  · obtain ⟨a, xs, rfl, _⟩ := h
    rfl
  · obtain ⟨a, xs, rfl, ha, tb, kk⟩ := h
    refine ⟨_, pss_cons (ps_set (i := 1) scLaw.nd rfl (Or.inl rfl) (pe_call G1 (hr.mono (by decide)) rfl D1.mg D1.fn.kp D1.bd .nil pass0 (pa_cons (pv 0) pa_nil)))
      (pss_cons (ps_set (i := 2) scLaw.nd rfl (Or.inl rfl) (pe_lst (pa_cons (pe_call G2 (hr.mono (by decide)) rfl D2.mg D2.fn.kp D2.bd .nil pass0 (pa_cons (pv 1) (pa_cons pe_int (pa_cons pe_int pa_nil))))
        (pa_cons (pe_call G2 (hr.mono (by decide)) rfl D2.mg D2.fn.kp D2.bd .nil pass0 (pa_cons (pv 1) (pa_cons pe_int (pa_cons pe_int pa_nil))))
        (pa_cons (pe_call G2 (hr.mono (by decide)) rfl D2.mg D2.fn.kp D2.bd .nil pass0 (pa_cons (pv 1) (pa_cons pe_int (pa_cons pe_int pa_nil))))
        (pa_cons (pe_tup (pa_cons (pe_tup pa_nil) (pa_cons (pe_tup pa_nil) pa_nil))) (pa_cons (pe_tup (pa_cons (pe_tup pa_nil) (pa_cons (pe_tup (pa_cons (pe_tup pa_nil) pa_nil)) pa_nil))) pa_nil)))))))
      (pss_cons (ps_set (i := 3) scLaw.nd rfl (Or.inl rfl) (pe_make0 MK GI (hr.mono (by decide)) rfl hgC bI .nil pass0))
      (pss_cons (ps_for PassesOwn.never rfl (pi_list (pe_op op_cat (pv 2) (pe_slice sl_list (pv 2) po_none (po_some pe_int)))) (pg_name (i := 4) scLaw.nd rfl (Or.inl rfl))
        (pss_cons (ps_set (i := 5) scLaw.nd rfl (Or.inl rfl) (pe_call G3 (hr.mono (by decide)) rfl D3.mg D3.fn.kp D3.bd .nil pass0 (pa_cons (pv 4) pa_nil)))
        (pss_cons (ps_set (i := 6) scLaw.nd rfl (Or.inl rfl) (pe_lst (pa_cons (pe_call G4 hr rfl m4 k4 b4 v4 pass0 (pa_cons (pv 4) pa_nil))
          (pa_cons (pe_call G6 (hr.mono (by decide)) rfl D6.mg D6.fn.kp D6.bd .nil pass0 (pa_cons (pv 4) (pa_cons (pe_call G5 (hr.mono (by decide)) rfl m5 k5 b5 v5 pass0 (pa_cons (pv 4) pa_nil)) pa_nil)))
          (pa_cons (pe_ix ix_tup (pe_meth (pv 3) CT'.cl mA GA (hr.mono (by decide)) bA vA pass0 (pa_cons (pv 4) pa_nil)) pe_int (fun _ _ => rfl))
          (pa_cons (pe_ix ix_tup (pe_meth (pe_make0 MK GI (hr.mono (by decide)) rfl hgC bI .nil pass0) CT'.cl mA GA (hr.mono (by decide)) bA vA pass0 (pa_cons (pv 4) pa_nil)) pe_int (fun _ _ => rfl)) pa_nil))))))
        (pss_one (ps_if (pt_cmpR (op_neD (hu0 hr (by decide))) (pv 6) (pe_op op_rep (pe_lst (pa_cons (pv 5) pa_nil)) pe_int) (nomark _)) (pss_one (ps_ret pe_bl)) pss_nil)))))
      (pss_one (ps_ret pe_bl))))), ?_⟩
    refine ⟨_, rfl, a, xs, rfl, ha, fun H1 fe c ys lys F1 s1 nfe nc => ?_⟩
    have tb1 := tabs_same tb s1
    obtain ⟨a1, q1, hfe1⟩ := F1.ex
    refine ⟨_, rfl, fe, c, ys, 0, 7, 9, rfl, F1, lys, by decide, by decide, by decide, fun H2 y1 ns1 cs1 t1 d1 sub1 len1 wf1 few1 nm1 ht1 F2 b2 => ?_⟩
    have tb2 := tabs_but tb1 b2 hfe1
    obtain ⟨a2, q2, hfe2⟩ := F2.ex
    refine ⟨_, rfl, fe, c, ys, t1, 7, 12, rfl, F2, lys, by decide, by decide, Nat.lt_of_le_of_lt (Nat.add_le_add_right ht1 1000) (by decide), fun H3 y2 ns2 cs2 t2 d2 sub2 len2 wf2 few2 nm2 ht2 F3 b3 => ?_⟩
    have tb3 := tabs_but tb2 b3 hfe2
    obtain ⟨a3, q3, hfe3⟩ := F3.ex
    refine ⟨_, rfl, fe, c, ys, t2, 5, 4, rfl, F3, lys, by decide, by decide, Nat.lt_of_le_of_lt (show t2 + 1000 ≤ 3000 by omega) (by decide), fun H4 y3 ns3 cs3 t3 d3 sub3 len3 wf3 few3 nm3 ht3 F4 b4' => ?_⟩
    have tb4 := tabs_but tb3 b4' hfe3
    have e1 : Dp K H4 y1 (dF ns1 cs1) := dpTk ((b3.tk hfe2).trans (b4'.tk hfe3)) _ _ (nl_dF _ _) d1
    have e2 : Dp K H4 y2 (dF ns2 cs2) := dpTk (b4'.tk hfe3) _ _ (nl_dF _ _) d2
    have g1 : FmOk ns1 cs1 := .of sub1 len1 wf1 few1 nm1
    have g2 : FmOk ns2 cs2 := .of sub2 len2 wf2 few2 nm2
    have g3 : FmOk ns3 cs3 := .of sub3 (Nat.le_trans len3 (by decide)) wf3 few3 nm3
    clear b2 b3 b4' hfe1 hfe2 hfe3 F2 F3
    refine ⟨Nat.zero_le _, fun p1 h1 => ?_⟩
    have s5 := same_upd (u := .tup []) h1
    have i1 : Dp K (upd H4 p1 (.tup [])) (.ref p1) (.tuple []) := dp_new h1 .nil
    generalize upd H4 p1 (.tup []) = H5 at s5 i1
    refine ⟨Nat.zero_le _, fun p2 h2 => ?_⟩
    have s6 := same_upd (u := .tup []) h2
    have i2 : Dp K (upd H5 p2 (.tup [])) (.ref p2) (.tuple []) := dp_new h2 .nil
    have i12 := dpSame s6 _ _ i1
    generalize upd H5 p2 (.tup []) = H6 at s6 i2 i12
    refine ⟨Nat.succ_le_succ (Nat.succ_le_succ (Nat.zero_le _)), fun p3 h3 => ?_⟩
    have s7 := same_upd (u := .tup [V.ref p1, .ref p2]) h3
    have i3 : Dp K (upd H6 p3 (.tup [V.ref p1, .ref p2])) (.ref p3) (dF [] []) := dp_new h3 (.cons i12 (.cons i2 .nil))
    generalize upd H6 p3 (.tup [V.ref p1, .ref p2]) = H7 at s7 i3
    refine ⟨Nat.zero_le _, fun p4 h4 => ?_⟩
    have s8 := same_upd (u := .tup []) h4
    have i4 : Dp K (upd H7 p4 (.tup [])) (.ref p4) (.tuple []) := dp_new h4 .nil
    generalize upd H7 p4 (.tup []) = H8 at s8 i4
    refine ⟨Nat.zero_le _, fun p5 h5 => ?_⟩
    have s9 := same_upd (u := .tup []) h5
    have i5 : Dp K (upd H8 p5 (.tup [])) (.ref p5) (.tuple []) := dp_new h5 .nil
    generalize upd H8 p5 (.tup []) = H9 at s9 i5
    refine ⟨Nat.succ_le_succ (Nat.zero_le _), fun p6 h6 => ?_⟩
    have s10 := same_upd (u := .tup [V.ref p5]) h6
    have i6 : Dp K (upd H9 p6 (.tup [V.ref p5])) (.ref p6) (.tuple [.tuple []]) := dp_new h6 (.cons i5 .nil)
    generalize upd H9 p6 (.tup [V.ref p5]) = H10 at s10 i6
    refine ⟨Nat.succ_le_succ (Nat.succ_le_succ (Nat.zero_le _)), fun p7 h7 => ?_⟩
    have s11 := same_upd (u := .tup [V.ref p4, .ref p6]) h7
    have i7 : Dp K (upd H10 p7 (.tup [V.ref p4, .ref p6])) (.ref p7) (dF [] [[]]) := dp_new h7 (.cons (dpSame ((s9.trans s10)) _ _ i4) (.cons i6 .nil))
    generalize upd H10 p7 (.tup [V.ref p4, .ref p6]) = H11 at s11 i7
    have s711 : Same H7 H11 := ((s8.trans s9).trans s10).trans s11
    have s411 : Same H4 H11 := ((s5.trans s6).trans s7).trans s711
    have da : DpAll K H11 [y1, y2, y3, .ref p3, .ref p7] ([(ns1, cs1), (ns2, cs2), (ns3, cs3), ([], []), ([], [[]])].map dFm) :=
      .cons (dpSame s411 _ _ e1) (.cons (dpSame s411 _ _ e2) (.cons (dpSame s411 _ _ d3) (.cons (dpSame s711 _ _ i3) (.cons i7 .nil))))
    have tb11 := tabs_same tb4 s411
    clear s411 s711 s5 s6 s7 s8 s9 s10 s11 i1 i2 i12 i3 i4 i5 i6 i7 e1 e2 d1 d2 d3
    have okf : ∀ g ∈ [(ns1, cs1), (ns2, cs2), (ns3, cs3), (([] : List Str), ([] : Cs)), ([], [[]])] ++ [(ns1, cs1), (ns2, cs2)], FmOk g.1 g.2 := fun g hg => by
      simp only [List.cons_append, List.nil_append, List.mem_cons, List.not_mem_nil, or_false] at hg
      rcases hg with rfl | rfl | rfl | rfl | rfl | rfl | rfl
      · exact g1
      · exact g2
      · exact g3
      · exact .e0
      · exact .e1
      · exact g1
      · exact g2
    refine ⟨Nat.succ_le_succ (Nat.succ_le_succ (Nat.succ_le_succ (Nat.succ_le_succ (Nat.succ_le_succ (Nat.zero_le _))))), fun fl hfl => ?_⟩
    have s12 := same_upd (u := .lst [y1, y2, y3, .ref p3, .ref p7]) hfl
    have hfl12 : (upd H11 fl (.lst [y1, y2, y3, .ref p3, .ref p7])) fl = some (.lst [y1, y2, y3, .ref p3, .ref p7]) := upd_same
    have da12 := dpAllSame s12 _ _ da
    have tb12 := tabs_same tb11 s12
    generalize upd H11 fl (.lst [y1, y2, y3, .ref p3, .ref p7]) = H12 at hfl12 da12 tb12
    intro q dx2 nq ndq nex
    have s13 : Same H12 (upd (upd H12 dx2 (.own q)) q (.ins C2 dx2 [])) := fun b o e => by
      rw [upd_ne (ne_of_none e nq), upd_ne (ne_of_none e ndq)]
      exact e
    refine ⟨q, dx2, rfl, upd_same, fun H14 p dx l d hq W np nl' nd' keep => ⟨rfl, ?_⟩⟩
    have s14 : Same H12 H14 := fun b o e => keep b o (s13 b o e) (ne_of_none e nq)
    have tb14 := tabs_same tb12 s14
    have da14 := dpAllSame s14 _ _ da12
    refine ⟨_, rfl, _, rfl, 2, rfl, fl, _, rfl, SqL.of (s14 _ _ hfl12), fun sl hsl => ?_⟩
    have ec : cutV [y1, y2, y3, .ref p3, .ref p7] none (some (2 : Int)) = [y1, y2] := cutTo _ 2
    rw [ec]
    have s15 := same_upd (u := .lst [y1, y2]) hsl
    have hsl15 : (upd H14 sl (.lst [y1, y2])) sl = some (.lst [y1, y2]) := upd_same
    generalize upd H14 sl (.lst [y1, y2]) = H15 at s15 hsl15
    refine ⟨fl, sl, _, _, rfl, rfl, s15 _ _ (s14 _ _ hfl12), hsl15, by show 7 ≤ sizeLine; decide, fun gl hgl => ?_⟩
    have s16 := s15.trans (same_upd (u := .lst ([y1, y2, y3, .ref p3, .ref p7] ++ [y1, y2])) hgl)
    have W15 := W.same s15
    obtain ⟨vl, hl15, _⟩ := W15.lst
    obtain ⟨vd, hd15, _⟩ := W15.dct
    have ngp : gl ≠ p := (ne_of_none W15.ins hgl).symm
    have ngl : gl ≠ l := (ne_of_none hl15 hgl).symm
    have ngd : gl ≠ d := (ne_of_none hd15 hgl).symm
    have da16 := dpAllSame s16 _ _ da14
    have da7 : DpAll K (upd H15 gl (.lst ([y1, y2, y3, .ref p3, .ref p7] ++ [y1, y2]))) ([y1, y2, y3, .ref p3, .ref p7] ++ [y1, y2]) (([(ns1, cs1), (ns2, cs2), (ns3, cs3), ([], []), ([], [[]])] ++ [(ns1, cs1), (ns2, cs2)]).map dFm) := by
      rw [List.map_append]
      refine dpApp da16 ?_
      cases da16 with | cons c1 r => cases r with | cons c2 r => exact .cons c1 (.cons c2 .nil)
    have hgl16 : (upd H15 gl (.lst ([y1, y2, y3, .ref p3, .ref p7] ++ [y1, y2]))) gl = some (.lst ([y1, y2, y3, .ref p3, .ref p7] ++ [y1, y2])) := upd_same
    have l7 : ([y1, y2, y3, .ref p3, .ref p7] ++ [y1, y2]).length = 7 := rfl
    have W16 := W.same s16
    have hq16 := s16 _ _ hq
    have tb16 := tabs_same tb14 s16
    generalize upd H15 gl (.lst ([y1, y2, y3, .ref p3, .ref p7] ++ [y1, y2])) = H16 at da7 hgl16 W16 hq16 tb16
    generalize [y1, y2, y3, .ref p3, .ref p7] ++ [y1, y2] = gs at da7 hgl16 l7
    generalize [(ns1, cs1), (ns2, cs2), (ns3, cs3), (([] : List Str), ([] : Cs)), ([], [[]])] ++ [(ns1, cs1), (ns2, cs2)] = fs at da7 okf
    clear da16 da14 da12 da W15 hl15 hd15 hgl
    refine ⟨gl, rfl, ⟨_, SqL.of hgl16⟩, for_it (walk_list (xs := gs)) (fun i σ H' => ∃ (x4 x5 x6 : Option V) (rows : List Row) (dp fr ag lim : Int), σ = [some (.ref a), some (.ref fe), some (.ref fl), some (.ref q), x4, x5, x6] ∧ H' q = some (.ins C2 dx2 (cf p)) ∧ Wlk P w K C p dx l d H' rows dp fr ag lim ∧ Good rows ∧ rows.length ≤ 255 * i ∧ LamX.Tabs T H' ∧
        H' gl = some (.lst gs) ∧ DpAll K H' gs (fs.map dFm))
      ⟨none, none, none, [], 0, 0, 0, 0, rfl, hq16, W16, Good.nil, Nat.zero_le _, tb16, hgl16, da7⟩ (fun i σ H' _ ⟨_, _, _, _, _, _, _, _, _, _, _, _, _, _, e, _⟩ => SqL.of e) ?_ ?_⟩
    · rintro i x _ _ HA hi ⟨x4, x5, x6, rows, dp, fr, ag, lim, rfl, hq, W, good, hrl, tb, hgl, dv⟩ ⟨rfl, hx⟩
      obtain ⟨hit, dvx⟩ := dp_at (enc := dFm) ([], []) dv hx
      rw [l7] at hi
      have okx := okf _ (mem_getD ([], []) hit)
      generalize fs.getD i ([], []) = g at dvx okx
      obtain ⟨ns, cs⟩ := g
      have dvx : Dp K HA x (dF ns cs) := dvx
      have ok : FmOk ns cs := okx
      have l1000 : ns.length ≤ 1000 := Nat.le_trans ok.len (by decide)
      refine ⟨_, rfl, x, ns, cs, rfl, dvx, ok.len, ok.nd, ⟨ok.few, fun c hc => (ok.wf.all c hc).len⟩, ok.wf.ok, ok.names, fun HB sB => ?_⟩
      rw [ok.rows]
      refine ⟨_, rfl, x, 4000, ns, cs, rfl, dpSame sB _ _ dvx, ok.wf, ok.few, ok.lt, l1000, tabs_same tb sB, by decide, fun HC eC tC => ?_⟩
      have eAC : LamX.ExtN HA HC := (extN_same sB).trans eC
      refine ⟨_, rfl, _, rfl, x, 4000, ns, cs, rfl, dpTk (tk_ext2 eAC) _ _ (nl_dF _ _) dvx, ok.wf, ok.few, ok.lt, tC, by decide, fun HD rows4 y4 eD tD dy4 good4 ne4 hcs4 len4 => ?_⟩
      have eAD := eAC.trans eD
      have hsem4 := good4.sem _ (rowAt_mem (show rows4.length - 1 < rows4.length by have := List.length_pos_iff.mpr ne4; omega))
      rw [hcs4] at hsem4
      refine ⟨x, y4, ns, cs, rows4, rfl, dpTk (tk_ext2 eAD) _ _ (nl_dF _ _) dvx, dy4, good4.trail plainLaw (by omega), ne4, hcs4, l1000, fun HE sE => ?_⟩
      rw [hsem4]
      have eAE := eAD.trans (extN_same sE)
      have tE := tabs_same tD sE
      have hqE : HE q = some (.ins C2 dx2 (cf p)) := eAE _ _ hq fun ps z => by cases z
      have hglE : HE gl = some (.lst gs) := eAE _ _ hgl fun ps z => by cases z
      have WE := W.ext eAE
      have nqp : q ≠ p := fun z => by
        rw [z, WE.ins] at hqE
        cases hqE
      obtain ⟨vs0, hl0, _⟩ := WE.lst
      obtain ⟨xs0, hd0, _⟩ := WE.dct
      have nql : q ≠ l := fun z => by rw [z, hl0] at hqE; cases hqE
      have nqd : q ≠ d := fun z => by rw [z, hd0] at hqE; cases hqE
      refine ⟨_, rfl, q, dx2, _, rfl, hqE, cf_no (by decide +kernel), _, rfl, q, dx2, p, dx, l, d, x, 4000, dp, fr, ag, lim, rows, ns, cs, rfl, hqE, WE, good, dpTk (tk_ext2 eAE) _ _ (nl_dF _ _) dvx, ok.wf, ok.few, ok.lt, l1000, tE, by decide, by omega, fun HF rowsF dpF frF agF limF yF z1 z2 WF goodF lenF stF hyF => ?_⟩
      refine ⟨yF, _, 0, _, rfl, rfl, hyF, atI_nat (j := 0) rfl, ?_⟩
      have tkAF : Tk K HA HF := (tk_ext2 eAE).trans (stF.keep.tk WE)
      have hqF := stF.keep q _ hqE nqp nql nqd fun ps z => by cases z
      have hglF := stF.keep gl _ hglE ngp ngl ngd fun ps z => by cases z
      intro q' dx2' nq' ndq' nex'
      have sF' : Same HF (upd (upd HF dx2' (.own q')) q' (.ins C2 dx2' [])) := fun b o e => by
        rw [upd_ne (ne_of_none e nq'), upd_ne (ne_of_none e ndq')]
        exact e
      refine ⟨q', dx2', rfl, upd_same, fun HG p' dx' l' d' hq' W' np' nl2 nd2 keep' => ⟨rfl, ?_⟩⟩
      have sG : Same HF HG := fun b o e => keep' b o (sF' b o e) (ne_of_none e nq')
      refine ⟨q', dx2', _, rfl, hq', cf_no (by decide +kernel), _, rfl, q', dx2', p', dx', l', d', x, 4000, 0, 0, 0, 0, [], ns, cs, rfl, hq', W', Good.nil, dpTk (tkAF.trans (.same sG)) _ _ (nl_dF _ _) dvx, ok.wf, ok.few, ok.lt, l1000, tabs_same stF.tabs sG, by decide, by decide, fun HI rowsI dpI frI agI limI yI w1 w2 WI goodI lenI stI hyI => ?_⟩
      refine ⟨yI, _, 0, _, rfl, rfl, hyI, atI_nat (j := 0) rfl, ?_⟩
      have eFI : LamX.ExtN HF HI := fun b o e n => stI.keep b o (sG _ _ e) (ne_of_none (sF' _ _ e) np') (ne_of_none (sF' _ _ e) nl2) (ne_of_none (sF' _ _ e) nd2) n
      generalize ((mods cs * 2 ^ shownW ns cs : Nat) : Int) = v
      refine ⟨Nat.succ_le_succ (Nat.succ_le_succ (Nat.succ_le_succ (Nat.succ_le_succ (Nat.zero_le _)))), fun yl hyl => ?_⟩
      have sJ := same_upd (u := .lst [V.int v, .int v, .int v, .int v]) hyl
      have hJ : (upd HI yl (.lst [V.int v, .int v, .int v, .int v])) yl = some (.lst [V.int v, .int v, .int v, .int v]) := upd_same
      generalize upd HI yl (.lst [V.int v, .int v, .int v, .int v]) = HJ at sJ hJ
      refine ⟨_, rfl, _, rfl, Nat.succ_le_succ (Nat.zero_le _), fun m1 hm1 => ⟨m1, 4, _, rfl, rfl, upd_same, by omega, by omega, by show 4 ≤ sizeLine; decide, fun m2 hm2 => ?_⟩⟩
      have sL := same_put (u := .lst (List.replicate (4 : Int).toNat [V.int v]).flatten) (same_upd (u := .lst [V.int v]) hm1) hm2
      have hL : (upd (upd HJ m1 (.lst [V.int v])) m2 (.lst (List.replicate (4 : Int).toNat [V.int v]).flatten)) m2 = some (.lst [V.int v, .int v, .int v, .int v]) := upd_same
      generalize upd (upd HJ m1 (.lst [V.int v])) m2 (.lst (List.replicate (4 : Int).toNat [V.int v]).flatten) = HL at sL hL
      refine ⟨.list ([v, v, v, v].map .int), .list ([v, v, v, v].map .int), .lst (SqL.of (sL _ _ hJ)) (.cons (.int _) (.cons (.int _) (.cons (.int _) (.cons (.int _) .nil)))), .lst (SqL.of hL) (.cons (.int _) (.cons (.int _) (.cons (.int _) (.cons (.int _) .nil)))), sh_ints _, sh_ints _, _, rfl, ifF ?_ ?_⟩
      · simp [PyData.eqv, PyData.eqvAll]
      · have eFL : LamX.ExtN HF HL := (eFI.trans (extN_same sJ)).trans (extN_same sL)
        refine ⟨_, _, _, rowsF, dpF, frF, agF, limF, rfl, eFL _ _ hqF (fun ps z => by cases z), WF.ext eFL, goodF, by omega, tabs_same (tabs_same stI.tabs sJ) sL, eFL _ _ hglF (fun ps z => by cases z), dpAllTk (tkAF.trans (tk_ext2 eFL)) _ _ (nl_dFm fs) dv⟩
    · rintro σ H' ⟨x4, x5, x6, rows, dp, fr, ag, lim, rfl, _⟩
      exact kk _
end
end Wc
set_option maxRecDepth 100000
set_option maxHeartbeats 0
/-! W49: the head: what is looked at, the run (printed by gen49.py). -/
namespace Wc
open PySem PySem.Spec PyProof.Rows L2
def ddf (x : Str) (st : Stmt) : He.DefD := ⟨(x, none), x, x, defArgs st, defBody st, defScope st, [], []⟩
def dmf (C m q : Str) (st : Stmt) : He.DefD := ⟨(C, some m), m, q, defArgs st, defBody st, defScope st, [], []⟩
def dkf (x : Str) (st : Stmt) : He.DefD := ⟨(x, none), x, x, defArgs st, defBody st, defScope st, [], [("most", .int 4000)]⟩
def dWI : He.DefD := ⟨("Walker", some "__init__"), "__init__", "Walker.__init__", defArgs sWInit, defBody sWInit, defScope sWInit, [.non], []⟩
def dAsk : He.DefD := ⟨("Counter", some "ask"), "ask", "Counter.ask", defArgs sAsk, defBody sAsk, defScope sAsk, [], [("most", .int 4000)]⟩
def fn1 : List He.DefD := [ddf "is_number" sIsNumber, ddf "is_word" sIsWord, ddf "rises" sRises, ddf "is_literal" sIsLiteral, ddf "is_clause" sIsClause, ddf "contrary" sContrary, ddf "are_clauses" sAreClauses, ddf "names_in" sNamesIn, ddf "least_name" sLeastName, ddf "groups" sGroups, ddf "put" sPut, ddf "need" sNeed, ddf "is_rule" sIsRule, ddf "are_numbers" sAreNumbers, ddf "is_row" sIsRow, ddf "need_rows" sNeedRows, ddf "rows_wanted" sRowsWanted, ddf "lost_ways" sLostWays, ddf "holds" sHolds, ddf "count_by" sCountBy, ddf "shown_by" sShownBy, ddf "lets_trail" sLetsTrail, ddf "least_unit" sLeastUnit, ddf "most_common" sMostCommon]
def fn2 : List He.DefD := [dWI, dmf "Walker" "begin" "Walker.begin" sBegin, dmf "Walker" "row_of" "Walker.row_of" sRowOf, dmf "Walker" "lay" "Walker.lay" sLay, dmf "Walker" "count_of" "Walker.count_of" sCountOf, dmf "Walker" "rule_of" "Walker.rule_of" sRuleOf, dmf "Walker" "plain_rule" "Walker.plain_rule" sPlainRule, dkf "trail_of" sTrailOf, dkf "counted" sCounted, dmf "Counter" "__init__" "Counter.__init__" sCInit, dAsk]
def fn3 : List He.DefD := [ddf "_law_feed" sLFeed, ddf "_law_draw" sLDraw, ddf "_law_pool" sLPool, ddf "_law_clause" sLClause, ddf "_law_form" sLForm, ddf "_law_rows" sLRows, ddf "_law_meets" sLMeets, ddf "_law_count" sLCount, ddf "law" sLaw]
def hfn : List He.DefD := fn1 ++ (fn2 ++ fn3)
def fa1 : List He.Fa := [.glo "is_number", .glo "is_word", .glo "rises", .glo "is_literal", .glo "is_clause", .glo "contrary", .glo "are_clauses", .glo "names_in", .glo "least_name", .glo "groups", .glo "put", .glo "need", .glo "is_rule", .glo "are_numbers", .glo "is_row", .glo "need_rows", .glo "rows_wanted", .glo "lost_ways", .glo "holds", .glo "count_by", .glo "shown_by", .glo "lets_trail", .glo "least_unit", .glo "most_common"]
def fa2 : List He.Fa := [.glo "trail_of", .glo "counted", .glo "Walker", .glo "Counter", .glo "_law_feed", .glo "_law_draw", .glo "_law_pool", .glo "_law_clause", .glo "_law_form", .glo "_law_rows", .glo "_law_meets", .glo "_law_count", .glo "law"]
def fa3 : List He.Fa := [.free "len", .free "all", .free "any", .free "isinstance", .free "tuple", .free "sorted", .free "min", .free "max", .free "zip", .free "enumerate", .free "dict", .free "list", .free "range", .free "int", .free "str", .free "bool"]
def fa4 : List He.Fa := [.str "LETTERS" "abcdefghijklmnopqrstuvwxyz", .int "LONGEST" 8, .cls "Walker", .cls "Counter", .noat "Walker" "shown", .noat "Walker" "laid", .noat "Walker" "numbers", .noat "Walker" "deep", .noat "Walker" "fresh", .noat "Walker" "again", .noat "Walker" "limit", .noat "Counter" "walker", .meth "Walker" "begin", .meth "Walker" "row_of", .meth "Walker" "lay", .meth "Walker" "count_of", .meth "Walker" "rule_of", .meth "Walker" "plain_rule", .meth "Counter" "ask", .mkr "Walker", .mkr "Counter"]
def hfa : List He.Fa := fa1 ++ (fa2 ++ (fa3 ++ fa4))
def htf : List He.Defn := [("most_common", none)]
abbrev hR : PySem.W.OpenRow := PySem.W.OpenLaw.row PySem.Challenge.rw_waycircuits_k21_whole_count_by_rows
abbrev hk : PySem.W.Hook := He.hookX 6 hfa hfn [] htf (fun _ => true)
def hob (s : PySem.W.SharedT) : He.AlX := He.obsX 6 hfa hfn [] htf (fun _ => true) (HandSHeadRun.getT s)
theorem hob_eq (s : PySem.W.SharedT) : hob s = hk.obs s.abs := He.obsX_eq (HandSHeadRun.getT_eq s)
def hn1 : List PySem.Str := ["_wall", "FormError", "NoPaper", "NoMore", "LETTERS", "LONGEST", "is_number", "is_word", "rises", "is_literal", "is_clause", "contrary", "are_clauses", "names_in", "least_name", "groups", "put", "need", "is_rule", "are_numbers"]
def hn2 : List PySem.Str := ["is_row", "need_rows", "rows_wanted", "lost_ways", "holds", "count_by", "shown_by", "lets_trail", "least_unit", "most_common", "Walker", "STEPS", "trail_of", "counted", "Counter", "_law_feed", "_law_draw", "_law_pool", "_law_clause", "_law_form", "_law_rows", "_law_meets", "_law_count"]
def hnames : List PySem.Str := hn1 ++ hn2
theorem hrun (w : World) : HandSHeadRun.RunEq hR (PySem.W.view hR.prog [54]) hk hob 12000 hnames w := by
  intro os
  kernel_rfl
end Wc
set_option maxRecDepth 100000
set_option maxHeartbeats 4000000
/-! W50: facts of each def, by the head (printed by gen50.py). -/
namespace Wc
open PySem PySem.Spec PyProof.Rows L2
section
variable {P : Program} {w : World} {K : PySem.W.Frag} {mg : Str → Option Value} {base h : Heap}
theorem fun_of {x q : Str} {st : Stmt} {kws : List (Str × V)} {f : Addr} {fd : FuncData} (F : FunD K x q (defArgs st) (defBody st) (defScope st) [] kws f fd) : Fun K x q st f fd := by
  obtain ⟨oc, od, dV, kV, doc, pm, an, cdv, ct, osl, e, lk, hcd, hD, hK⟩ := F.ex
  rcases hD with ⟨_, rfl⟩ | ⟨e, _⟩
  · exact ⟨⟨oc, od, kV, doc, pm, an, cdv, ct, osl, e, lk, hcd⟩, F.kp⟩
  · exact absurd rfl e
theorem func_of {x : Str} {st : Stmt} {p : He.Defn} {fd : FuncData} (F : FunD K x x (defArgs st) (defBody st) (defScope st) [] [] (He.fAd K p) fd) : FunC K x x st (He.fAd K p) fd (He.cT K p).1 := by
  obtain ⟨oc, od, dV, kV, doc, pm, an, cdv, ct, osl, rfl, lk, hcd, hD, hK⟩ := F.ex
  obtain ⟨cc, rfl⟩ := He.codeIn_ref hcd
  have ec : (He.cT K p).1 = cc := He.codeOf_eq lk rfl
  rw [ec]
  rcases hD with ⟨_, rfl⟩ | ⟨e, _⟩
  · exact ⟨⟨oc, od, kV, doc, pm, an, ct, osl, rfl, lk, hcd⟩⟩
  · exact absurd rfl e
theorem dg_is_number (X : K.In h) (G : h.Ns mainGlobals mg) (c : He.SaysD hfa hfn K) : ∃ fd, Df K mg "is_number" sIsNumber ["thing"] (He.ga K "is_number") fd := by
  obtain ⟨fd, F⟩ := c.def_ 0 (d := ddf "is_number" sIsNumber) rfl
  have F' : FunD K "is_number" "is_number" (defArgs sIsNumber) (defBody sIsNumber) (defScope sIsNumber) [] [] (He.ga K "is_number") fd := F
  exact ⟨fd, fun_of F', He.glo_ok X G (c.fact 0 (f := .glo "is_number") rfl), F'.bindsN (ps := ["thing"]) fun _ _ _ _ _ _ us hl => match us, hl with | [_], _ => rfl⟩
theorem dg_is_word (X : K.In h) (G : h.Ns mainGlobals mg) (c : He.SaysD hfa hfn K) : ∃ fd, Df K mg "is_word" sIsWord ["thing"] (He.ga K "is_word") fd := by
  obtain ⟨fd, F⟩ := c.def_ 1 (d := ddf "is_word" sIsWord) rfl
  have F' : FunD K "is_word" "is_word" (defArgs sIsWord) (defBody sIsWord) (defScope sIsWord) [] [] (He.ga K "is_word") fd := F
  exact ⟨fd, fun_of F', He.glo_ok X G (c.fact 1 (f := .glo "is_word") rfl), F'.bindsN (ps := ["thing"]) fun _ _ _ _ _ _ us hl => match us, hl with | [_], _ => rfl⟩
theorem dg_rises (X : K.In h) (G : h.Ns mainGlobals mg) (c : He.SaysD hfa hfn K) : ∃ fd, Df K mg "rises" sRises ["some"] (He.ga K "rises") fd := by
  obtain ⟨fd, F⟩ := c.def_ 2 (d := ddf "rises" sRises) rfl
  have F' : FunD K "rises" "rises" (defArgs sRises) (defBody sRises) (defScope sRises) [] [] (He.ga K "rises") fd := F
  exact ⟨fd, fun_of F', He.glo_ok X G (c.fact 2 (f := .glo "rises") rfl), F'.bindsN (ps := ["some"]) fun _ _ _ _ _ _ us hl => match us, hl with | [_], _ => rfl⟩
theorem dg_is_literal (X : K.In h) (G : h.Ns mainGlobals mg) (c : He.SaysD hfa hfn K) : ∃ fd, Df K mg "is_literal" sIsLiteral ["thing"] (He.ga K "is_literal") fd := by
  obtain ⟨fd, F⟩ := c.def_ 3 (d := ddf "is_literal" sIsLiteral) rfl
  have F' : FunD K "is_literal" "is_literal" (defArgs sIsLiteral) (defBody sIsLiteral) (defScope sIsLiteral) [] [] (He.ga K "is_literal") fd := F
  exact ⟨fd, fun_of F', He.glo_ok X G (c.fact 3 (f := .glo "is_literal") rfl), F'.bindsN (ps := ["thing"]) fun _ _ _ _ _ _ us hl => match us, hl with | [_], _ => rfl⟩
theorem dg_is_clause (X : K.In h) (G : h.Ns mainGlobals mg) (c : He.SaysD hfa hfn K) : ∃ fd, Df K mg "is_clause" sIsClause ["thing"] (He.ga K "is_clause") fd := by
  obtain ⟨fd, F⟩ := c.def_ 4 (d := ddf "is_clause" sIsClause) rfl
  have F' : FunD K "is_clause" "is_clause" (defArgs sIsClause) (defBody sIsClause) (defScope sIsClause) [] [] (He.ga K "is_clause") fd := F
  exact ⟨fd, fun_of F', He.glo_ok X G (c.fact 4 (f := .glo "is_clause") rfl), F'.bindsN (ps := ["thing"]) fun _ _ _ _ _ _ us hl => match us, hl with | [_], _ => rfl⟩
theorem dg_contrary (X : K.In h) (G : h.Ns mainGlobals mg) (c : He.SaysD hfa hfn K) : ∃ fd, Df K mg "contrary" sContrary ["literal"] (He.ga K "contrary") fd := by
  obtain ⟨fd, F⟩ := c.def_ 5 (d := ddf "contrary" sContrary) rfl
  have F' : FunD K "contrary" "contrary" (defArgs sContrary) (defBody sContrary) (defScope sContrary) [] [] (He.ga K "contrary") fd := F
  exact ⟨fd, fun_of F', He.glo_ok X G (c.fact 5 (f := .glo "contrary") rfl), F'.bindsN (ps := ["literal"]) fun _ _ _ _ _ _ us hl => match us, hl with | [_], _ => rfl⟩
theorem dg_are_clauses (X : K.In h) (G : h.Ns mainGlobals mg) (c : He.SaysD hfa hfn K) : ∃ fd, Df K mg "are_clauses" sAreClauses ["thing"] (He.ga K "are_clauses") fd := by
  obtain ⟨fd, F⟩ := c.def_ 6 (d := ddf "are_clauses" sAreClauses) rfl
  have F' : FunD K "are_clauses" "are_clauses" (defArgs sAreClauses) (defBody sAreClauses) (defScope sAreClauses) [] [] (He.ga K "are_clauses") fd := F
  exact ⟨fd, fun_of F', He.glo_ok X G (c.fact 6 (f := .glo "are_clauses") rfl), F'.bindsN (ps := ["thing"]) fun _ _ _ _ _ _ us hl => match us, hl with | [_], _ => rfl⟩
theorem dg_names_in (X : K.In h) (G : h.Ns mainGlobals mg) (c : He.SaysD hfa hfn K) : ∃ fd, Df K mg "names_in" sNamesIn ["clauses"] (He.ga K "names_in") fd := by
  obtain ⟨fd, F⟩ := c.def_ 7 (d := ddf "names_in" sNamesIn) rfl
  have F' : FunD K "names_in" "names_in" (defArgs sNamesIn) (defBody sNamesIn) (defScope sNamesIn) [] [] (He.ga K "names_in") fd := F
  exact ⟨fd, fun_of F', He.glo_ok X G (c.fact 7 (f := .glo "names_in") rfl), F'.bindsN (ps := ["clauses"]) fun _ _ _ _ _ _ us hl => match us, hl with | [_], _ => rfl⟩
theorem dg_least_name (X : K.In h) (G : h.Ns mainGlobals mg) (c : He.SaysD hfa hfn K) : ∃ fd, Df K mg "least_name" sLeastName ["group"] (He.ga K "least_name") fd := by
  obtain ⟨fd, F⟩ := c.def_ 8 (d := ddf "least_name" sLeastName) rfl
  have F' : FunD K "least_name" "least_name" (defArgs sLeastName) (defBody sLeastName) (defScope sLeastName) [] [] (He.ga K "least_name") fd := F
  exact ⟨fd, fun_of F', He.glo_ok X G (c.fact 8 (f := .glo "least_name") rfl), F'.bindsN (ps := ["group"]) fun _ _ _ _ _ _ us hl => match us, hl with | [_], _ => rfl⟩
theorem dg_groups (X : K.In h) (G : h.Ns mainGlobals mg) (c : He.SaysD hfa hfn K) : ∃ fd, Df K mg "groups" sGroups ["clauses"] (He.ga K "groups") fd := by
  obtain ⟨fd, F⟩ := c.def_ 9 (d := ddf "groups" sGroups) rfl
  have F' : FunD K "groups" "groups" (defArgs sGroups) (defBody sGroups) (defScope sGroups) [] [] (He.ga K "groups") fd := F
  exact ⟨fd, fun_of F', He.glo_ok X G (c.fact 9 (f := .glo "groups") rfl), F'.bindsN (ps := ["clauses"]) fun _ _ _ _ _ _ us hl => match us, hl with | [_], _ => rfl⟩
theorem dg_put (X : K.In h) (G : h.Ns mainGlobals mg) (c : He.SaysD hfa hfn K) : ∃ fd, Df K mg "put" sPut ["clauses", "literal"] (He.ga K "put") fd := by
  obtain ⟨fd, F⟩ := c.def_ 10 (d := ddf "put" sPut) rfl
  have F' : FunD K "put" "put" (defArgs sPut) (defBody sPut) (defScope sPut) [] [] (He.ga K "put") fd := F
  exact ⟨fd, fun_of F', He.glo_ok X G (c.fact 10 (f := .glo "put") rfl), F'.bindsN (ps := ["clauses", "literal"]) fun _ _ _ _ _ _ us hl => match us, hl with | [_, _], _ => rfl⟩
theorem dg_need (X : K.In h) (G : h.Ns mainGlobals mg) (c : He.SaysD hfa hfn K) : ∃ fd, Df K mg "need" sNeed ["truth", "word", "at"] (He.ga K "need") fd := by
  obtain ⟨fd, F⟩ := c.def_ 11 (d := ddf "need" sNeed) rfl
  have F' : FunD K "need" "need" (defArgs sNeed) (defBody sNeed) (defScope sNeed) [] [] (He.ga K "need") fd := F
  exact ⟨fd, fun_of F', He.glo_ok X G (c.fact 11 (f := .glo "need") rfl), F'.bindsN (ps := ["truth", "word", "at"]) fun _ _ _ _ _ _ us hl => match us, hl with | [_, _, _], _ => rfl⟩
theorem dg_is_rule (X : K.In h) (G : h.Ns mainGlobals mg) (c : He.SaysD hfa hfn K) : ∃ fd, Df K mg "is_rule" sIsRule ["thing"] (He.ga K "is_rule") fd := by
  obtain ⟨fd, F⟩ := c.def_ 12 (d := ddf "is_rule" sIsRule) rfl
  have F' : FunD K "is_rule" "is_rule" (defArgs sIsRule) (defBody sIsRule) (defScope sIsRule) [] [] (He.ga K "is_rule") fd := F
  exact ⟨fd, fun_of F', He.glo_ok X G (c.fact 12 (f := .glo "is_rule") rfl), F'.bindsN (ps := ["thing"]) fun _ _ _ _ _ _ us hl => match us, hl with | [_], _ => rfl⟩
theorem dg_are_numbers (X : K.In h) (G : h.Ns mainGlobals mg) (c : He.SaysD hfa hfn K) : ∃ fd, Df K mg "are_numbers" sAreNumbers ["things"] (He.ga K "are_numbers") fd := by
  obtain ⟨fd, F⟩ := c.def_ 13 (d := ddf "are_numbers" sAreNumbers) rfl
  have F' : FunD K "are_numbers" "are_numbers" (defArgs sAreNumbers) (defBody sAreNumbers) (defScope sAreNumbers) [] [] (He.ga K "are_numbers") fd := F
  exact ⟨fd, fun_of F', He.glo_ok X G (c.fact 13 (f := .glo "are_numbers") rfl), F'.bindsN (ps := ["things"]) fun _ _ _ _ _ _ us hl => match us, hl with | [_], _ => rfl⟩
theorem dg_is_row (X : K.In h) (G : h.Ns mainGlobals mg) (c : He.SaysD hfa hfn K) : ∃ fd, Df K mg "is_row" sIsRow ["thing", "is_known"] (He.ga K "is_row") fd := by
  obtain ⟨fd, F⟩ := c.def_ 14 (d := ddf "is_row" sIsRow) rfl
  have F' : FunD K "is_row" "is_row" (defArgs sIsRow) (defBody sIsRow) (defScope sIsRow) [] [] (He.ga K "is_row") fd := F
  exact ⟨fd, fun_of F', He.glo_ok X G (c.fact 14 (f := .glo "is_row") rfl), F'.bindsN (ps := ["thing", "is_known"]) fun _ _ _ _ _ _ us hl => match us, hl with | [_, _], _ => rfl⟩
theorem dg_need_rows (X : K.In h) (G : h.Ns mainGlobals mg) (c : He.SaysD hfa hfn K) : ∃ fd, Df K mg "need_rows" sNeedRows ["thing", "is_known"] (He.ga K "need_rows") fd := by
  obtain ⟨fd, F⟩ := c.def_ 15 (d := ddf "need_rows" sNeedRows) rfl
  have F' : FunD K "need_rows" "need_rows" (defArgs sNeedRows) (defBody sNeedRows) (defScope sNeedRows) [] [] (He.ga K "need_rows") fd := F
  exact ⟨fd, fun_of F', He.glo_ok X G (c.fact 15 (f := .glo "need_rows") rfl), F'.bindsN (ps := ["thing", "is_known"]) fun _ _ _ _ _ _ us hl => match us, hl with | [_, _], _ => rfl⟩
theorem dg_rows_wanted (X : K.In h) (G : h.Ns mainGlobals mg) (c : He.SaysD hfa hfn K) : ∃ fd, Df K mg "rows_wanted" sRowsWanted ["rule"] (He.ga K "rows_wanted") fd := by
  obtain ⟨fd, F⟩ := c.def_ 16 (d := ddf "rows_wanted" sRowsWanted) rfl
  have F' : FunD K "rows_wanted" "rows_wanted" (defArgs sRowsWanted) (defBody sRowsWanted) (defScope sRowsWanted) [] [] (He.ga K "rows_wanted") fd := F
  exact ⟨fd, fun_of F', He.glo_ok X G (c.fact 16 (f := .glo "rows_wanted") rfl), F'.bindsN (ps := ["rule"]) fun _ _ _ _ _ _ us hl => match us, hl with | [_], _ => rfl⟩
theorem dg_lost_ways (X : K.In h) (G : h.Ns mainGlobals mg) (c : He.SaysD hfa hfn K) : ∃ fd, Df K mg "lost_ways" sLostWays ["clauses", "literal", "lower", "shown"] (He.ga K "lost_ways") fd := by
  obtain ⟨fd, F⟩ := c.def_ 17 (d := ddf "lost_ways" sLostWays) rfl
  have F' : FunD K "lost_ways" "lost_ways" (defArgs sLostWays) (defBody sLostWays) (defScope sLostWays) [] [] (He.ga K "lost_ways") fd := F
  exact ⟨fd, fun_of F', He.glo_ok X G (c.fact 17 (f := .glo "lost_ways") rfl), F'.bindsN (ps := ["clauses", "literal", "lower", "shown"]) fun _ _ _ _ _ _ us hl => match us, hl with | [_, _, _, _], _ => rfl⟩
theorem dg_holds (X : K.In h) (G : h.Ns mainGlobals mg) (c : He.SaysD hfa hfn K) : ∃ fd, Df K mg "holds" sHolds ["trail", "r"] (He.ga K "holds") fd := by
  obtain ⟨fd, F⟩ := c.def_ 18 (d := ddf "holds" sHolds) rfl
  have F' : FunD K "holds" "holds" (defArgs sHolds) (defBody sHolds) (defScope sHolds) [] [] (He.ga K "holds") fd := F
  exact ⟨fd, fun_of F', He.glo_ok X G (c.fact 18 (f := .glo "holds") rfl), F'.bindsN (ps := ["trail", "r"]) fun _ _ _ _ _ _ us hl => match us, hl with | [_, _], _ => rfl⟩
theorem dg_count_by (X : K.In h) (G : h.Ns mainGlobals mg) (c : He.SaysD hfa hfn K) : ∃ fd, Df K mg "count_by" sCountBy ["trail", "r", "shown"] (He.ga K "count_by") fd := by
  obtain ⟨fd, F⟩ := c.def_ 19 (d := ddf "count_by" sCountBy) rfl
  have F' : FunD K "count_by" "count_by" (defArgs sCountBy) (defBody sCountBy) (defScope sCountBy) [] [] (He.ga K "count_by") fd := F
  exact ⟨fd, fun_of F', He.glo_ok X G (c.fact 19 (f := .glo "count_by") rfl), F'.bindsN (ps := ["trail", "r", "shown"]) fun _ _ _ _ _ _ us hl => match us, hl with | [_, _, _], _ => rfl⟩
theorem dg_shown_by (X : K.In h) (G : h.Ns mainGlobals mg) (c : He.SaysD hfa hfn K) : ∃ fd, Df K mg "shown_by" sShownBy ["names", "clauses", "count"] (He.ga K "shown_by") fd := by
  obtain ⟨fd, F⟩ := c.def_ 20 (d := ddf "shown_by" sShownBy) rfl
  have F' : FunD K "shown_by" "shown_by" (defArgs sShownBy) (defBody sShownBy) (defScope sShownBy) [] [] (He.ga K "shown_by") fd := F
  exact ⟨fd, fun_of F', He.glo_ok X G (c.fact 20 (f := .glo "shown_by") rfl), F'.bindsN (ps := ["names", "clauses", "count"]) fun _ _ _ _ _ _ us hl => match us, hl with | [_, _, _], _ => rfl⟩
theorem dg_lets_trail (X : K.In h) (G : h.Ns mainGlobals mg) (c : He.SaysD hfa hfn K) : ∃ fd, Df K mg "lets_trail" sLetsTrail ["form", "thing"] (He.ga K "lets_trail") fd := by
  obtain ⟨fd, F⟩ := c.def_ 21 (d := ddf "lets_trail" sLetsTrail) rfl
  have F' : FunD K "lets_trail" "lets_trail" (defArgs sLetsTrail) (defBody sLetsTrail) (defScope sLetsTrail) [] [] (He.ga K "lets_trail") fd := F
  exact ⟨fd, fun_of F', He.glo_ok X G (c.fact 21 (f := .glo "lets_trail") rfl), F'.bindsN (ps := ["form", "thing"]) fun _ _ _ _ _ _ us hl => match us, hl with | [_, _], _ => rfl⟩
theorem dg_least_unit (X : K.In h) (G : h.Ns mainGlobals mg) (c : He.SaysD hfa hfn K) : ∃ fd, Df K mg "least_unit" sLeastUnit ["clauses"] (He.ga K "least_unit") fd := by
  obtain ⟨fd, F⟩ := c.def_ 22 (d := ddf "least_unit" sLeastUnit) rfl
  have F' : FunD K "least_unit" "least_unit" (defArgs sLeastUnit) (defBody sLeastUnit) (defScope sLeastUnit) [] [] (He.ga K "least_unit") fd := F
  exact ⟨fd, fun_of F', He.glo_ok X G (c.fact 22 (f := .glo "least_unit") rfl), F'.bindsN (ps := ["clauses"]) fun _ _ _ _ _ _ us hl => match us, hl with | [_], _ => rfl⟩
theorem dg_most_common (X : K.In h) (G : h.Ns mainGlobals mg) (c : He.SaysD hfa hfn K) : ∃ fd, Df K mg "most_common" sMostCommon ["clauses", "names"] (He.ga K "most_common") fd := by
  obtain ⟨fd, F⟩ := c.def_ 23 (d := ddf "most_common" sMostCommon) rfl
  have F' : FunD K "most_common" "most_common" (defArgs sMostCommon) (defBody sMostCommon) (defScope sMostCommon) [] [] (He.ga K "most_common") fd := F
  exact ⟨fd, fun_of F', He.glo_ok X G (c.fact 23 (f := .glo "most_common") rfl), F'.bindsN (ps := ["clauses", "names"]) fun _ _ _ _ _ _ us hl => match us, hl with | [_, _], _ => rfl⟩
theorem dg__law_feed (X : K.In h) (G : h.Ns mainGlobals mg) (c : He.SaysD hfa hfn K) : ∃ fd, Df K mg "_law_feed" sLFeed ["_law_script"] (He.ga K "_law_feed") fd := by
  obtain ⟨fd, F⟩ := c.def_ 35 (d := ddf "_law_feed" sLFeed) rfl
  have F' : FunD K "_law_feed" "_law_feed" (defArgs sLFeed) (defBody sLFeed) (defScope sLFeed) [] [] (He.ga K "_law_feed") fd := F
  exact ⟨fd, fun_of F', He.glo_ok X G (c.fact 28 (f := .glo "_law_feed") rfl), F'.bindsN (ps := ["_law_script"]) fun _ _ _ _ _ _ us hl => match us, hl with | [_], _ => rfl⟩
theorem dg__law_draw (X : K.In h) (G : h.Ns mainGlobals mg) (c : He.SaysD hfa hfn K) : ∃ fd, Df K mg "_law_draw" sLDraw ["_law_feed_here", "_law_many"] (He.ga K "_law_draw") fd := by
  obtain ⟨fd, F⟩ := c.def_ 36 (d := ddf "_law_draw" sLDraw) rfl
  have F' : FunD K "_law_draw" "_law_draw" (defArgs sLDraw) (defBody sLDraw) (defScope sLDraw) [] [] (He.ga K "_law_draw") fd := F
  exact ⟨fd, fun_of F', He.glo_ok X G (c.fact 29 (f := .glo "_law_draw") rfl), F'.bindsN (ps := ["_law_feed_here", "_law_many"]) fun _ _ _ _ _ _ us hl => match us, hl with | [_, _], _ => rfl⟩
theorem dg__law_pool (X : K.In h) (G : h.Ns mainGlobals mg) (c : He.SaysD hfa hfn K) : ∃ fd, Df K mg "_law_pool" sLPool ["_law_feed_here", "_law_many"] (He.ga K "_law_pool") fd := by
  obtain ⟨fd, F⟩ := c.def_ 37 (d := ddf "_law_pool" sLPool) rfl
  have F' : FunD K "_law_pool" "_law_pool" (defArgs sLPool) (defBody sLPool) (defScope sLPool) [] [] (He.ga K "_law_pool") fd := F
  exact ⟨fd, fun_of F', He.glo_ok X G (c.fact 30 (f := .glo "_law_pool") rfl), F'.bindsN (ps := ["_law_feed_here", "_law_many"]) fun _ _ _ _ _ _ us hl => match us, hl with | [_, _], _ => rfl⟩
theorem dg__law_clause (X : K.In h) (G : h.Ns mainGlobals mg) (c : He.SaysD hfa hfn K) : ∃ fd, Df K mg "_law_clause" sLClause ["_law_feed_here", "_law_names"] (He.ga K "_law_clause") fd := by
  obtain ⟨fd, F⟩ := c.def_ 38 (d := ddf "_law_clause" sLClause) rfl
  have F' : FunD K "_law_clause" "_law_clause" (defArgs sLClause) (defBody sLClause) (defScope sLClause) [] [] (He.ga K "_law_clause") fd := F
  exact ⟨fd, fun_of F', He.glo_ok X G (c.fact 31 (f := .glo "_law_clause") rfl), F'.bindsN (ps := ["_law_feed_here", "_law_names"]) fun _ _ _ _ _ _ us hl => match us, hl with | [_, _], _ => rfl⟩
theorem dg__law_form (X : K.In h) (G : h.Ns mainGlobals mg) (c : He.SaysD hfa hfn K) : ∃ fd, Df K mg "_law_form" sLForm ["_law_feed_here", "_law_names", "_law_clauses"] (He.ga K "_law_form") fd := by
  obtain ⟨fd, F⟩ := c.def_ 39 (d := ddf "_law_form" sLForm) rfl
  have F' : FunD K "_law_form" "_law_form" (defArgs sLForm) (defBody sLForm) (defScope sLForm) [] [] (He.ga K "_law_form") fd := F
  exact ⟨fd, fun_of F', He.glo_ok X G (c.fact 32 (f := .glo "_law_form") rfl), F'.bindsN (ps := ["_law_feed_here", "_law_names", "_law_clauses"]) fun _ _ _ _ _ _ us hl => match us, hl with | [_, _, _], _ => rfl⟩
theorem dg__law_rows (X : K.In h) (G : h.Ns mainGlobals mg) (c : He.SaysD hfa hfn K) : ∃ fd, Df K mg "_law_rows" sLRows ["_law_many"] (He.ga K "_law_rows") fd := by
  obtain ⟨fd, F⟩ := c.def_ 40 (d := ddf "_law_rows" sLRows) rfl
  have F' : FunD K "_law_rows" "_law_rows" (defArgs sLRows) (defBody sLRows) (defScope sLRows) [] [] (He.ga K "_law_rows") fd := F
  exact ⟨fd, fun_of F', He.glo_ok X G (c.fact 33 (f := .glo "_law_rows") rfl), F'.bindsN (ps := ["_law_many"]) fun _ _ _ _ _ _ us hl => match us, hl with | [_], _ => rfl⟩
theorem dg__law_meets (X : K.In h) (G : h.Ns mainGlobals mg) (c : He.SaysD hfa hfn K) : ∃ fd, Df K mg "_law_meets" sLMeets ["_law_clauses", "_law_had"] (He.ga K "_law_meets") fd := by
  obtain ⟨fd, F⟩ := c.def_ 41 (d := ddf "_law_meets" sLMeets) rfl
  have F' : FunD K "_law_meets" "_law_meets" (defArgs sLMeets) (defBody sLMeets) (defScope sLMeets) [] [] (He.ga K "_law_meets") fd := F
  exact ⟨fd, fun_of F', He.glo_ok X G (c.fact 34 (f := .glo "_law_meets") rfl), F'.bindsN (ps := ["_law_clauses", "_law_had"]) fun _ _ _ _ _ _ us hl => match us, hl with | [_, _], _ => rfl⟩
theorem dg__law_count (X : K.In h) (G : h.Ns mainGlobals mg) (c : He.SaysD hfa hfn K) : ∃ fd, Df K mg "_law_count" sLCount ["_law_form_here"] (He.ga K "_law_count") fd := by
  obtain ⟨fd, F⟩ := c.def_ 42 (d := ddf "_law_count" sLCount) rfl
  have F' : FunD K "_law_count" "_law_count" (defArgs sLCount) (defBody sLCount) (defScope sLCount) [] [] (He.ga K "_law_count") fd := F
  exact ⟨fd, fun_of F', He.glo_ok X G (c.fact 35 (f := .glo "_law_count") rfl), F'.bindsN (ps := ["_law_form_here"]) fun _ _ _ _ _ _ us hl => match us, hl with | [_], _ => rfl⟩

theorem dw_begin (c : He.SaysD hfa hfn K) : ∃ fd, Fun K "begin" "Walker.begin" sBegin (He.ma K (He.ga K "Walker") "begin") fd ∧ Meth K (He.ga K "Walker") "begin" (He.ma K (He.ga K "Walker") "begin") ∧ Binds K fd ["self", "most"] [] := by
  obtain ⟨fd, F⟩ := c.def_ 25 (d := dmf "Walker" "begin" "Walker.begin" sBegin) rfl
  have F' : FunD K "begin" "Walker.begin" (defArgs sBegin) (defBody sBegin) (defScope sBegin) [] [] (He.ma K (He.ga K "Walker") "begin") fd := F
  exact ⟨fd, fun_of F', He.meth_ok (c.fact 65 (f := .meth "Walker" "begin") rfl), F'.bindsN (ps := ["self", "most"]) fun _ _ _ _ _ _ us hl => match us, hl with | [_, _], _ => rfl⟩
theorem dw_row_of (c : He.SaysD hfa hfn K) : ∃ fd, Fun K "row_of" "Walker.row_of" sRowOf (He.ma K (He.ga K "Walker") "row_of") fd ∧ Meth K (He.ga K "Walker") "row_of" (He.ma K (He.ga K "Walker") "row_of") ∧ Binds K fd ["self", "clauses"] [] := by
  obtain ⟨fd, F⟩ := c.def_ 26 (d := dmf "Walker" "row_of" "Walker.row_of" sRowOf) rfl
  have F' : FunD K "row_of" "Walker.row_of" (defArgs sRowOf) (defBody sRowOf) (defScope sRowOf) [] [] (He.ma K (He.ga K "Walker") "row_of") fd := F
  exact ⟨fd, fun_of F', He.meth_ok (c.fact 66 (f := .meth "Walker" "row_of") rfl), F'.bindsN (ps := ["self", "clauses"]) fun _ _ _ _ _ _ us hl => match us, hl with | [_, _], _ => rfl⟩
theorem dw_lay (c : He.SaysD hfa hfn K) : ∃ fd, Fun K "lay" "Walker.lay" sLay (He.ma K (He.ga K "Walker") "lay") fd ∧ Meth K (He.ga K "Walker") "lay" (He.ma K (He.ga K "Walker") "lay") ∧ Binds K fd ["self", "clauses", "rule"] [] := by
  obtain ⟨fd, F⟩ := c.def_ 27 (d := dmf "Walker" "lay" "Walker.lay" sLay) rfl
  have F' : FunD K "lay" "Walker.lay" (defArgs sLay) (defBody sLay) (defScope sLay) [] [] (He.ma K (He.ga K "Walker") "lay") fd := F
  exact ⟨fd, fun_of F', He.meth_ok (c.fact 67 (f := .meth "Walker" "lay") rfl), F'.bindsN (ps := ["self", "clauses", "rule"]) fun _ _ _ _ _ _ us hl => match us, hl with | [_, _, _], _ => rfl⟩
theorem dw_count_of (c : He.SaysD hfa hfn K) : ∃ fd, Fun K "count_of" "Walker.count_of" sCountOf (He.ma K (He.ga K "Walker") "count_of") fd ∧ Meth K (He.ga K "Walker") "count_of" (He.ma K (He.ga K "Walker") "count_of") ∧ Binds K fd ["self", "r"] [] := by
  obtain ⟨fd, F⟩ := c.def_ 28 (d := dmf "Walker" "count_of" "Walker.count_of" sCountOf) rfl
  have F' : FunD K "count_of" "Walker.count_of" (defArgs sCountOf) (defBody sCountOf) (defScope sCountOf) [] [] (He.ma K (He.ga K "Walker") "count_of") fd := F
  exact ⟨fd, fun_of F', He.meth_ok (c.fact 68 (f := .meth "Walker" "count_of") rfl), F'.bindsN (ps := ["self", "r"]) fun _ _ _ _ _ _ us hl => match us, hl with | [_, _], _ => rfl⟩
theorem dw_rule_of (c : He.SaysD hfa hfn K) : ∃ fd, Fun K "rule_of" "Walker.rule_of" sRuleOf (He.ma K (He.ga K "Walker") "rule_of") fd ∧ Meth K (He.ga K "Walker") "rule_of" (He.ma K (He.ga K "Walker") "rule_of") ∧ Binds K fd ["self", "clauses"] [] := by
  obtain ⟨fd, F⟩ := c.def_ 29 (d := dmf "Walker" "rule_of" "Walker.rule_of" sRuleOf) rfl
  have F' : FunD K "rule_of" "Walker.rule_of" (defArgs sRuleOf) (defBody sRuleOf) (defScope sRuleOf) [] [] (He.ma K (He.ga K "Walker") "rule_of") fd := F
  exact ⟨fd, fun_of F', He.meth_ok (c.fact 69 (f := .meth "Walker" "rule_of") rfl), F'.bindsN (ps := ["self", "clauses"]) fun _ _ _ _ _ _ us hl => match us, hl with | [_, _], _ => rfl⟩
theorem dw_plain_rule (c : He.SaysD hfa hfn K) : ∃ fd, Fun K "plain_rule" "Walker.plain_rule" sPlainRule (He.ma K (He.ga K "Walker") "plain_rule") fd ∧ Meth K (He.ga K "Walker") "plain_rule" (He.ma K (He.ga K "Walker") "plain_rule") ∧ Binds K fd ["self", "clauses", "names"] [] := by
  obtain ⟨fd, F⟩ := c.def_ 30 (d := dmf "Walker" "plain_rule" "Walker.plain_rule" sPlainRule) rfl
  have F' : FunD K "plain_rule" "Walker.plain_rule" (defArgs sPlainRule) (defBody sPlainRule) (defScope sPlainRule) [] [] (He.ma K (He.ga K "Walker") "plain_rule") fd := F
  exact ⟨fd, fun_of F', He.meth_ok (c.fact 70 (f := .meth "Walker" "plain_rule") rfl), F'.bindsN (ps := ["self", "clauses", "names"]) fun _ _ _ _ _ _ us hl => match us, hl with | [_, _, _], _ => rfl⟩
theorem dw_init (c : He.SaysD hfa hfn K) : ∃ fd ds, FunD K "__init__" "Walker.__init__" (defArgs sWInit) (defBody sWInit) (defScope sWInit) [.non] [] (He.ma K (He.ga K "Walker") "__init__") fd ∧ Vals [V.non] ds ∧ Binds K fd ["self", "shown"] ds := by
  obtain ⟨fd, F⟩ := c.def_ 24 (d := dWI) rfl
  have F' : FunD K "__init__" "Walker.__init__" (defArgs sWInit) (defBody sWInit) (defScope sWInit) [.non] [] (He.ma K (He.ga K "Walker") "__init__") fd := F
  obtain ⟨ds, v, b⟩ := F'.binds1 (ps := ["self", "shown"]) 1 0 (by simp) rfl fun T kV doc pm an cdv ct us its l1 l2 => match us, its, l1, l2 with | [_], [_], _, _ => ⟨_, rfl, rfl⟩
  exact ⟨fd, ds, F', v, b⟩
theorem dc_init (c : He.SaysD hfa hfn K) : ∃ fd, Fun K "__init__" "Counter.__init__" sCInit (He.ma K (He.ga K "Counter") "__init__") fd ∧ Binds K fd ["self"] [] := by
  obtain ⟨fd, F⟩ := c.def_ 33 (d := dmf "Counter" "__init__" "Counter.__init__" sCInit) rfl
  have F' : FunD K "__init__" "Counter.__init__" (defArgs sCInit) (defBody sCInit) (defScope sCInit) [] [] (He.ma K (He.ga K "Counter") "__init__") fd := F
  exact ⟨fd, fun_of F', F'.bindsN (ps := ["self"]) fun _ _ _ _ _ _ us hl => match us, hl with | [_], _ => rfl⟩
theorem dc_ask (c : He.SaysD hfa hfn K) : ∃ fd ds, FunD K "ask" "Counter.ask" (defArgs sAsk) (defBody sAsk) (defScope sAsk) [] [("most", .int 4000)] (He.ma K (He.ga K "Counter") "ask") fd ∧ Meth K (He.ga K "Counter") "ask" (He.ma K (He.ga K "Counter") "ask") ∧ Vals [V.int 4000] ds ∧ Binds K fd ["self", "form", "most"] ds := by
  obtain ⟨fd, F⟩ := c.def_ 34 (d := dAsk) rfl
  have F' : FunD K "ask" "Counter.ask" (defArgs sAsk) (defBody sAsk) (defScope sAsk) [] [("most", .int 4000)] (He.ma K (He.ga K "Counter") "ask") fd := F
  obtain ⟨ds, v, b⟩ := F'.binds0 (ps := ["self", "form", "most"]) 2 (by simp) rfl fun D doc pm an cdv ct us ks l1 l2 => match us, ks, l1, l2 with | [_, _], [_], _, _ => ⟨_, _, _, _, _, _, rfl, rfl, rfl⟩
  exact ⟨fd, ds, F', He.meth_ok (c.fact 71 (f := .meth "Counter" "ask") rfl), v, b⟩
theorem dk_trail_of (X : K.In h) (G : h.Ns mainGlobals mg) (c : He.SaysD hfa hfn K) : ∃ fd ds, FunD K "trail_of" "trail_of" (defArgs sTrailOf) (defBody sTrailOf) (defScope sTrailOf) [] [("most", .int 4000)] (He.ga K "trail_of") fd ∧ mg "trail_of" = some (.ref (He.ga K "trail_of")) ∧ Vals [V.int 4000] ds ∧ Binds K fd ["form", "most"] ds := by
  obtain ⟨fd, F⟩ := c.def_ 31 (d := dkf "trail_of" sTrailOf) rfl
  have F' : FunD K "trail_of" "trail_of" (defArgs sTrailOf) (defBody sTrailOf) (defScope sTrailOf) [] [("most", .int 4000)] (He.ga K "trail_of") fd := F
  obtain ⟨ds, v, b⟩ := F'.binds0 (ps := ["form", "most"]) 1 (by simp) rfl fun D doc pm an cdv ct us ks l1 l2 => match us, ks, l1, l2 with | [_], [_], _, _ => ⟨_, _, _, _, _, _, rfl, rfl, rfl⟩
  exact ⟨fd, ds, F', He.glo_ok X G (c.fact 24 (f := .glo "trail_of") rfl), v, b⟩
theorem dk_counted (X : K.In h) (G : h.Ns mainGlobals mg) (c : He.SaysD hfa hfn K) : ∃ fd ds, FunD K "counted" "counted" (defArgs sCounted) (defBody sCounted) (defScope sCounted) [] [("most", .int 4000)] (He.ga K "counted") fd ∧ mg "counted" = some (.ref (He.ga K "counted")) ∧ Vals [V.int 4000] ds ∧ Binds K fd ["form", "most"] ds := by
  obtain ⟨fd, F⟩ := c.def_ 32 (d := dkf "counted" sCounted) rfl
  have F' : FunD K "counted" "counted" (defArgs sCounted) (defBody sCounted) (defScope sCounted) [] [("most", .int 4000)] (He.ga K "counted") fd := F
  obtain ⟨ds, v, b⟩ := F'.binds0 (ps := ["form", "most"]) 1 (by simp) rfl fun D doc pm an cdv ct us ks l1 l2 => match us, ks, l1, l2 with | [_], [_], _, _ => ⟨_, _, _, _, _, _, rfl, rfl, rfl⟩
  exact ⟨fd, ds, F', He.glo_ok X G (c.fact 25 (f := .glo "counted") rfl), v, b⟩
theorem hblt (X : K.In h) (G : h.Ns mainGlobals mg) (c : He.SaysD hfa hfn K) : Blt mg := ⟨He.free_ok X G (c.fact 37 (f := .free "len") rfl), He.free_ok X G (c.fact 38 (f := .free "all") rfl), He.free_ok X G (c.fact 39 (f := .free "any") rfl), He.free_ok X G (c.fact 40 (f := .free "isinstance") rfl), He.free_ok X G (c.fact 41 (f := .free "tuple") rfl), He.free_ok X G (c.fact 42 (f := .free "sorted") rfl), He.free_ok X G (c.fact 43 (f := .free "min") rfl), He.free_ok X G (c.fact 44 (f := .free "max") rfl), He.free_ok X G (c.fact 45 (f := .free "zip") rfl), He.free_ok X G (c.fact 46 (f := .free "enumerate") rfl), He.free_ok X G (c.fact 47 (f := .free "dict") rfl), He.free_ok X G (c.fact 48 (f := .free "list") rfl), He.free_ok X G (c.fact 49 (f := .free "range") rfl), He.free_ok X G (c.fact 50 (f := .free "int") rfl), He.free_ok X G (c.fact 51 (f := .free "str") rfl), He.free_ok X G (c.fact 52 (f := .free "bool") rfl)⟩
theorem hcst (X : K.In h) (G : h.Ns mainGlobals mg) (c : He.SaysD hfa hfn K) : Cst mg := ⟨He.str_ok X G (c.fact 53 (f := .str "LETTERS" "abcdefghijklmnopqrstuvwxyz") rfl), He.int_ok X G (c.fact 54 (f := .int "LONGEST" 8) rfl)⟩
theorem hwt (c : He.SaysD hfa hfn K) : WT K (He.ga K "Walker") := ⟨He.cls_ok (c.fact 55 (f := .cls "Walker") rfl), He.noat_ok (c.fact 57 (f := .noat "Walker" "shown") rfl), He.noat_ok (c.fact 58 (f := .noat "Walker" "laid") rfl), He.noat_ok (c.fact 59 (f := .noat "Walker" "numbers") rfl), He.noat_ok (c.fact 60 (f := .noat "Walker" "deep") rfl), He.noat_ok (c.fact 61 (f := .noat "Walker" "fresh") rfl), He.noat_ok (c.fact 62 (f := .noat "Walker" "again") rfl), He.noat_ok (c.fact 63 (f := .noat "Walker" "limit") rfl)⟩
theorem hct (c : He.SaysD hfa hfn K) : CT K (He.ga K "Counter") := ⟨He.cls_ok (c.fact 56 (f := .cls "Counter") rfl), He.noat_ok (c.fact 64 (f := .noat "Counter" "walker") rfl)⟩
theorem hmkW (c : He.SaysD hfa hfn K) : Mk K (He.ga K "Walker") (He.ma K (He.ga K "Walker") "__init__") := He.mkr_ok (c.fact 72 (f := .mkr "Walker") rfl)
theorem hmkC (c : He.SaysD hfa hfn K) : Mk K (He.ga K "Counter") (He.ma K (He.ga K "Counter") "__init__") := He.mkr_ok (c.fact 73 (f := .mkr "Counter") rfl)
theorem hgW (X : K.In h) (G : h.Ns mainGlobals mg) (c : He.SaysD hfa hfn K) : mg "Walker" = some (.ref (He.ga K "Walker")) := He.glo_ok X G (c.fact 26 (f := .glo "Walker") rfl)
theorem hgC (X : K.In h) (G : h.Ns mainGlobals mg) (c : He.SaysD hfa hfn K) : mg "Counter" = some (.ref (He.ga K "Counter")) := He.glo_ok X G (c.fact 27 (f := .glo "Counter") rfl)
theorem dl_law (X : K.In h) (G : h.Ns mainGlobals mg) (c : He.SaysD hfa hfn K) : ∃ fd, FunD K "law" "law" (defArgs sLaw) (defBody sLaw) (defScope sLaw) [] [] (He.ga K "law") fd ∧ mg "law" = some (.ref (He.ga K "law")) := by
  obtain ⟨fd, F⟩ := c.def_ 43 (d := ddf "law" sLaw) rfl
  have F' : FunD K "law" "law" (defArgs sLaw) (defBody sLaw) (defScope sLaw) [] [] (He.ga K "law") fd := F
  exact ⟨fd, F', He.glo_ok X G (c.fact 36 (f := .glo "law") rfl)⟩
end
end Wc
set_option maxRecDepth 100000
set_option maxHeartbeats 4000000
/-! W51: all defs joined, the law's promise at the head's heap (printed by gen51.py). -/
namespace Wc
open PySem PySem.Spec PyProof.Rows L2
section
variable {P : Program} {w : World} {K : PySem.W.Frag} {mg : Str → Option Value} {base h : Heap}
theorem dmost (X : K.In h) (G : h.Ns mainGlobals mg) (c : He.SaysD hfa hfn K) : ∃ fd, FunC K "most_common" "most_common" sMostCommon (He.ga K "most_common") fd (He.cT K ("most_common", none)).1 ∧ Df K mg "most_common" sMostCommon ["clauses", "names"] (He.ga K "most_common") fd := by
  obtain ⟨fd, F⟩ := c.def_ 23 (d := ddf "most_common" sMostCommon) rfl
  have F' : FunD K "most_common" "most_common" (defArgs sMostCommon) (defBody sMostCommon) (defScope sMostCommon) [] [] (He.fAd K ("most_common", none)) fd := F
  exact ⟨fd, func_of F', fun_of F', He.glo_ok X G (c.fact 23 (f := .glo "most_common") rfl), F'.bindsN (ps := ["clauses", "names"]) fun _ _ _ _ _ _ us hl => match us, hl with | [_, _], _ => rfl⟩
theorem law_ok {fd : FuncData} (X : K.In h) (G : h.Ns mainGlobals mg) (c : He.SaysD hfa hfn K) {Pt : Addr} (TB : LamX.TabB base mg (He.cT K ("most_common", none)).1 Pt) (F : FunD K "law" "law" (defArgs sLaw) (defBody sLaw) (defScope sLaw) [] [] (He.ga K "law") fd) :
    FnOk P w K mg base CX0 32 (He.ga K "law") fd ["_law_script"] (spLaw K [(Pt, qMost)]) := by
  have B := hblt X G c
  have C := hcst X G c
  have WT' := hwt c
  have CT' := hct c
  have gW := hgW X G c
  have gC := hgC X G c
  have MW := hmkW c
  have MC := hmkC c
  obtain ⟨fd_is_number, D_is_number⟩ := dg_is_number X G c
  obtain ⟨fd_is_word, D_is_word⟩ := dg_is_word X G c
  obtain ⟨fd_rises, D_rises⟩ := dg_rises X G c
  obtain ⟨fd_is_literal, D_is_literal⟩ := dg_is_literal X G c
  obtain ⟨fd_is_clause, D_is_clause⟩ := dg_is_clause X G c
  obtain ⟨fd_contrary, D_contrary⟩ := dg_contrary X G c
  obtain ⟨fd_are_clauses, D_are_clauses⟩ := dg_are_clauses X G c
  obtain ⟨fd_names_in, D_names_in⟩ := dg_names_in X G c
  obtain ⟨fd_least_name, D_least_name⟩ := dg_least_name X G c
  obtain ⟨fd_groups, D_groups⟩ := dg_groups X G c
  obtain ⟨fd_put, D_put⟩ := dg_put X G c
  obtain ⟨fd_need, D_need⟩ := dg_need X G c
  obtain ⟨fd_is_rule, D_is_rule⟩ := dg_is_rule X G c
  obtain ⟨fd_are_numbers, D_are_numbers⟩ := dg_are_numbers X G c
  obtain ⟨fd_is_row, D_is_row⟩ := dg_is_row X G c
  obtain ⟨fd_need_rows, D_need_rows⟩ := dg_need_rows X G c
  obtain ⟨fd_rows_wanted, D_rows_wanted⟩ := dg_rows_wanted X G c
  obtain ⟨fd_lost_ways, D_lost_ways⟩ := dg_lost_ways X G c
  obtain ⟨fd_holds, D_holds⟩ := dg_holds X G c
  obtain ⟨fd_count_by, D_count_by⟩ := dg_count_by X G c
  obtain ⟨fd_shown_by, D_shown_by⟩ := dg_shown_by X G c
  obtain ⟨fd_lets_trail, D_lets_trail⟩ := dg_lets_trail X G c
  obtain ⟨fd_least_unit, D_least_unit⟩ := dg_least_unit X G c
  obtain ⟨fd__law_feed, D__law_feed⟩ := dg__law_feed X G c
  obtain ⟨fd__law_draw, D__law_draw⟩ := dg__law_draw X G c
  obtain ⟨fd__law_pool, D__law_pool⟩ := dg__law_pool X G c
  obtain ⟨fd__law_clause, D__law_clause⟩ := dg__law_clause X G c
  obtain ⟨fd__law_form, D__law_form⟩ := dg__law_form X G c
  obtain ⟨fd__law_rows, D__law_rows⟩ := dg__law_rows X G c
  obtain ⟨fd__law_meets, D__law_meets⟩ := dg__law_meets X G c
  obtain ⟨fd__law_count, D__law_count⟩ := dg__law_count X G c
  obtain ⟨fd_most, hC, D_most⟩ := dmost X G c
  obtain ⟨fd_begin, F_begin, m_begin, b_begin⟩ := dw_begin c
  obtain ⟨fd_row_of, F_row_of, m_row_of, b_row_of⟩ := dw_row_of c
  obtain ⟨fd_lay, F_lay, m_lay, b_lay⟩ := dw_lay c
  obtain ⟨fd_count_of, F_count_of, m_count_of, b_count_of⟩ := dw_count_of c
  obtain ⟨fd_rule_of, F_rule_of, m_rule_of, b_rule_of⟩ := dw_rule_of c
  obtain ⟨fd_plain_rule, F_plain_rule, m_plain_rule, b_plain_rule⟩ := dw_plain_rule c
  obtain ⟨fd_wi, ds_wi, F_wi, v_wi, b_wi⟩ := dw_init c
  obtain ⟨fd_ci, F_ci, b_ci⟩ := dc_init c
  obtain ⟨fd_ask, ds_ask, F_ask, m_ask, v_ask, b_ask⟩ := dc_ask c
  obtain ⟨fd_tr, ds_tr, F_tr, m_tr, v_tr, b_tr⟩ := dk_trail_of X G c
  obtain ⟨fd_co, ds_co, F_co, m_co, v_co, b_co⟩ := dk_counted X G c
  have e_is_number := ok_is_number (P := P) (w := w) (base := base) B D_is_number
  have e_is_word := ok_is_word (P := P) (w := w) (base := base) B C D_is_word
  have e_rises := ok_rises (P := P) (w := w) (base := base) B D_rises
  have e_is_literal := ok_is_literal B e_is_word D_is_word D_is_literal
  have e_is_clause := ok_is_clause B e_is_literal D_is_literal e_rises D_rises D_is_clause
  have e_are_clauses := ok_are_clauses B e_is_clause D_is_clause e_rises D_rises D_are_clauses
  have e_names_in := ok_names_in (P := P) (w := w) (base := base) B D_names_in
  have e_least_name := ok_least_name (P := P) (w := w) (base := base) B D_least_name
  have e_groups := ok_groups B e_least_name D_least_name D_groups
  have e_put := ok_put (P := P) (w := w) (base := base) B D_contrary D_put
  have e_need := ok_need (P := P) (w := w) (base := base) D_need
  have e_are_numbers := ok_are_numbers B e_is_number D_is_number D_are_numbers
  have e_is_rule := ok_is_rule B e_is_literal D_is_literal e_is_number D_is_number e_is_word D_is_word e_are_numbers D_are_numbers D_is_rule
  have e_is_row := ok_is_row B e_are_clauses D_are_clauses e_is_number D_is_number e_is_rule D_is_rule D_is_row
  have e_need_rows := ok_need_rows B e_need D_need e_is_row D_is_row D_need_rows
  have e_rows_wanted := ok_rows_wanted (P := P) (w := w) (base := base) D_rows_wanted
  have e_lost_ways := ok_lost_ways B e_names_in D_names_in D_lost_ways
  have e_holds := ok_holds B e_put D_put e_groups D_groups e_names_in D_names_in D_holds
  have e_count_by := ok_count_by B e_lost_ways D_lost_ways D_count_by
  have e_shown_by := ok_shown_by B e_names_in D_names_in D_shown_by
  have e_lets := ok_lets_trail B e_need_rows D_need_rows D_is_rule e_need D_need e_rows_wanted D_rows_wanted e_holds D_holds e_count_by D_count_by e_shown_by D_shown_by D_lets_trail
  have e_least_unit := ok_least_unit (P := P) (w := w) (base := base) B D_least_unit
  have e_most := ok_most_common (P := P) (w := w) B hC TB
  have e_winit := ok_winit (P := P) (w := w) (mg := mg) (base := base) WT' F_wi
  have e_begin := ok_begin (P := P) (w := w) (mg := mg) (base := base) WT' F_begin
  have e_count_of := ok_count_of WT' e_count_by D_count_by F_count_of
  have e_lay := ok_lay (Tt := [(Pt, qMost)]) B WT' e_count_of m_count_of b_count_of F_lay
  have e_rows : FnOk P w K mg base CX0 29 (He.ma K (He.ga K "Walker") "row_of") fd_row_of ["self", "clauses"] (spRowOf P w K (He.ga K "Walker") [(Pt, qMost)] 8) :=
    ok_rows plainLaw B WT' e_least_unit D_least_unit e_put D_put e_groups D_groups e_most D_most e_names_in D_names_in F_row_of m_row_of b_row_of F_plain_rule m_plain_rule b_plain_rule F_rule_of m_rule_of b_rule_of e_lay m_lay b_lay 8
  have e_trail := ok_trail_of B WT' gW MW e_winit b_wi v_wi e_begin m_begin b_begin e_rows m_row_of b_row_of F_tr
  have e_counted := ok_counted plainLaw B F_tr m_tr e_trail e_shown_by D_shown_by F_co
  have e_cinit := ok_cinit CT' gW MW e_winit b_wi v_wi F_ci
  have e_ask := ok_ask plainLaw WT' CT' e_begin m_begin b_begin e_rows m_row_of b_row_of e_shown_by D_shown_by F_ask
  have e_feed := ok_feed (P := P) (w := w) (base := base) D__law_feed
  have e_draw := ok_draw (P := P) (w := w) (base := base) B D__law_draw
  have e_pool := ok_pool B e_draw D__law_draw D__law_pool
  have e_clause := ok_lclause B e_draw D__law_draw D__law_clause
  have e_form := ok_lform B e_draw D__law_draw e_pool D__law_pool e_clause D__law_clause D__law_form
  have e_lrows := ok_lrows (P := P) (w := w) (base := base) B D__law_rows
  have e_meets := ok_lmeets (P := P) (w := w) (base := base) B D__law_meets
  have e_count := ok_lcount B e_lrows D__law_rows e_meets D__law_meets D__law_count
  exact ok_law B CT' e_feed D__law_feed e_form D__law_form e_count D__law_count e_counted m_co F_co.kp b_co v_co e_trail m_tr F_tr.kp b_tr v_tr e_lets D_lets_trail gC MC e_cinit b_ci e_ask m_ask b_ask v_ask F
theorem law_at {l : PySem.W.OpenLaw} {fa : Addr} (X : K.In h) (G : h.Ns mainGlobals mg) (hfa' : mg "law" = some (.ref fa)) (c : He.SaysX hfa hfn [] htf (fun _ => true) w h K) : LamX.LawAtS l w K CX0 32 63 "_law_script" mg fa h := by
  have cd : He.SaysD hfa hfn K := c.t.d
  obtain ⟨fd, F, gl⟩ := dl_law X G cd
  have e := hfa'.symm.trans gl
  cases e
  have mem : (("most_common", none) : He.Defn) ∈ htf := List.mem_singleton.mpr rfl
  have bA := F.bindsA (ps := ["_law_script"]) fun _ _ _ _ _ _ us hl => match us, hl with | [_], _ => rfl
  refine ⟨fd, [He.cT K ("most_common", none)], spLaw K [((He.cT K ("most_common", none)).2, qMost)], fun p hp => ?_, fun p hp => ?_, fun p hp => ?_, fun s u => bA s [u] rfl, fun H a ns _ _ hH hS => ?_, fun b _ _ TB => ?_⟩
  · rw [List.mem_singleton.mp hp]
    exact c.empty _ mem
  · rw [List.mem_singleton.mp hp]
    exact c.out _ mem
  · rw [List.mem_singleton.mp hp]
    exact PySem.W.codeHd_of_K X (c.hd _ mem)
  · refine ⟨a, ns, rfl, hS, fun p hp => ?_, fun _ => rfl⟩
    rw [List.mem_singleton.mp hp]
    exact LamX.TabS.nil (hH _ (List.mem_singleton.mpr rfl))
  · exact law_ok X G cd (TB _ (List.mem_singleton.mpr rfl)) F
end
end Wc
set_option maxRecDepth 100000
set_option maxHeartbeats 0
/-! W52: the row. -/
open PySem PySem.W PySem.Calls PyProof.Rows
theorem PySem.Challenge.cw_waycircuits_k21_whole_count_by_rows_holds : PySem.Challenge.rw_waycircuits_k21_whole_count_by_rows.Holds := by
  w_on; o_law
  refine HandSHeadRun.head_any (r := OpenLaw.row PySem.Challenge.rw_waycircuits_k21_whole_count_by_rows) (q := view (OpenLaw.row PySem.Challenge.rw_waycircuits_k21_whole_count_by_rows).prog [54]) (H := Wc.hk) (ob := Wc.hob) (M := 12000) (loose := Wc.hnames) (d := HandSHeadRun.topDef (OpenLaw.row PySem.Challenge.rw_waycircuits_k21_whole_count_by_rows).prog 54) (kwd := []) Wc.hob_eq
    (by kernel_rfl) (fun s => by kernel_rfl) Wc.hrun (by kernel_rfl) (by kernel_rfl) (by kernel_rfl) (by rfl) (by first | assumption | decide +kernel) (by decide +kernel) ⟨rfl, rfl, rfl, rfl, rfl, by decide +kernel⟩ ?hw ?hc
  case hw => w_witness2
  case hc =>
    refine LamX.walk_ofTsE (l := PySem.Challenge.rw_waycircuits_k21_whole_count_by_rows) (n := 63) (k := 32) (x := "_law_script") (CX := fun _ => L2.CX0) rfl (by decide) (by kernel_rfl) ⟨rfl, by decide, by decide⟩ ?F (fun _ _ _ _ _ z => z)
    intro w mg fa h Y G hmg0
    obtain ⟨K, KX, c⟩ := Y
    have hmg : mg ("law" : PySem.Str) = some (.ref fa) := by
      have e : (HandSHeadRun.topDef (OpenLaw.row PySem.Challenge.rw_waycircuits_k21_whole_count_by_rows).prog 54).name = ("law" : PySem.Str) := by kernel_rfl
      rw [← e]
      exact hmg0
    exact ⟨K, KX, Wc.law_at KX G hmg c⟩
