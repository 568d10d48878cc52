import PyProof.Rows.All
import Wide.All
import OpenK.AllK
import Wide.FinOn
import HandS.ForMost
import HandS.IsInst
import HandS.TupAny
import HandS.Style
import HandS.StrMore
import HandS.Walk
import HandS.Codes
import HandS.Flow
import PySem.Challenge.RW_eachplace_k22_whole_unlike_sayings_unlik
set_option Elab.async false
set_option linter.all false
set_option maxRecDepth 100000
set_option maxHeartbeats 4000000
/-! 1. The text by places, heaps, data, the module's facts, one rule of my own: a tuple's items backwards. -/
namespace Ep
open PySem PySem.Spec PyProof.Rows L2 SX
open C8 (Cal Met Mak Def cal0 met0 mak0 pe_c pe_mk pe_mt pe_mt0 fnBody fnScope fnArgs fnScope_by pe_gc pss_cut)
def top (i : Nat) : Stmt := PySem.Challenge.pw_eachplace_k22_whole_unlike_sayings_unlik.main.body.getD i (.Pass ⟨0, 0, 0, 0⟩)

/-! ### heaps -/
/-- all that was tracked, but what stands at p, is as it was -/
def Keep (p : Addr) (H H' : Hp) : Prop := ∀ b o, b ≠ p → H b = some o → H' b = some o
/-- the tuples are as they were -/
def Tups (H H' : Hp) : Prop := ∀ a xs, Rd H a (.tup xs) → Rd H' a (.tup xs)
section
variable {H H' H1 H2 : Hp} {p q : Addr} {o : HO} {K : PySem.W.Frag} {a : Addr} {xs : List V}
theorem same_new (h : H q = none) : Same H (upd H q o) := fun b u e => by
  rw [upd_ne (ne_of_none e h)]
  exact e
theorem Keep.refl (p : Addr) (H : Hp) : Keep p H H := fun _ _ _ h => h
theorem Keep.trans (a : Keep p H H1) (b : Keep p H1 H2) : Keep p H H2 := fun c o n h => b c o n (a c o n h)
theorem Keep.of (s : Same H H') : Keep p H H' := fun b o _ h => s b o h
theorem Keep.upd (k : Keep p H H') : Keep p H (L2.upd H' p o) := fun b u n h => by
  rw [upd_ne n]
  exact k b u n h
theorem Keep.updN (k : Keep p H H') (n : H q = none) : Keep p H (L2.upd H' q o) := fun b u nb h => by
  rw [upd_ne (ne_of_none h n)]
  exact k b u nb h
theorem Same.updN (k : Same H H') (n : H q = none) : Same H (L2.upd H' q o) := fun b u h => by
  rw [upd_ne (ne_of_none h n)]
  exact k b u h
theorem Keep.at (k : Keep p H H') (h : H q = some o) (n : q ≠ p) : H' q = some o := k q o n h
theorem Keep.free (k : Keep p H H') (h : H' q = none) (n : q ≠ p) : H q = none := by
  cases e : H q with
  | none => rfl
  | some u =>
    rw [k q u n e] at h
    cases h
theorem Tups.refl (H : Hp) : Tups H H := fun _ _ h => h
theorem Tups.trans (a : Tups H H1) (b : Tups H1 H2) : Tups H H2 := fun c xs h => b c xs (a c xs h)
theorem Same.tups (s : Same H H') : Tups H H' := fun a xs h => by
  rcases h with h | ⟨o, h⟩
  · exact .inl (s _ _ h)
  · exact .inr ⟨o, s _ _ h⟩
theorem Keep.tups {l : List V} (k : Keep p H H') (hp : H p = some (.lst l)) : Tups H H' := fun a xs h => by
  rcases h with h | ⟨o, h⟩
  · exact .inl (k _ _ (ne_of h hp (by intro z; cases z)) h)
  · exact .inr ⟨o, k _ _ (ne_of h hp (by intro z; cases z)) h⟩
theorem Tups.new (h : H q = none) : Tups H (upd H q o) := Same.tups (same_new h)
theorem Tups.updL {l l' : List V} (h : H q = some (.lst l)) : Tups H (upd H q (.lst l')) := Keep.tups (p := q) (Keep.refl q H).upd h
theorem Tups.sq (t : Tups H H') (h : SqT K H a xs) : SqT K H' a xs := by
  rcases h with h | h
  · exact .inl (t _ _ h)
  · exact .inr h
theorem Same.sqT (s : Same H H') (h : SqT K H a xs) : SqT K H' a xs := (Same.tups s).sq h
end

/-! ### data -/
abbrev DStr (z : List Nat) : PyData := .str (S z)
/-- a tuple of texts -/
def strsD (zs : List (List Nat)) : PyData := .tuple (zs.map DStr)
mutual
/-- no lists and no dicts in it -/
def noL : PyData → Bool
  | .none | .bool _ | .int _ | .str _ => true
  | .tuple ds => noLAll ds
  | .list _ | .dict _ => false
def noLAll : List PyData → Bool
  | [] => true
  | d :: ds => noL d && noLAll ds
end
section
variable {K : PySem.W.Frag} {H H' : Hp} {v : V} {vs : List V} {ds : List PyData} {d : PyData}
theorem dp_tup (h : Dp K H v (.tuple ds)) : ∃ a xs, v = .ref a ∧ SqT K H a xs ∧ DpAll K H xs ds := by
  cases h with
  | tup h1 h2 => exact ⟨_, _, rfl, h1, h2⟩
theorem dp_str {x : Str} (h : Dp K H v (.str x)) : v = .str x := by cases h; rfl
theorem dp_int {i : Int} (h : Dp K H v (.int i)) : v = .int i := by cases h; rfl
theorem dp_non (h : Dp K H v .none) : v = .non := by cases h; rfl
theorem dpa_nil (h : DpAll K H vs []) : vs = [] := by cases h; rfl
theorem dpa_cons (h : DpAll K H vs (d :: ds)) : ∃ v ws, vs = v :: ws ∧ Dp K H v d ∧ DpAll K H ws ds := by
  cases h with
  | cons h1 h2 => exact ⟨_, _, rfl, h1, h2⟩
theorem dpa1 (h : DpAll K H vs [d]) : ∃ v, vs = [v] ∧ Dp K H v d := by
  obtain ⟨v, ws, rfl, h1, h2⟩ := dpa_cons h
  rw [dpa_nil h2]
  exact ⟨v, rfl, h1⟩
theorem dpa2 {e : PyData} (h : DpAll K H vs [d, e]) : ∃ v w, vs = [v, w] ∧ Dp K H v d ∧ Dp K H w e := by
  obtain ⟨v, ws, rfl, h1, h2⟩ := dpa_cons h
  obtain ⟨w, rfl, h3⟩ := dpa1 h2
  exact ⟨v, w, rfl, h1, h3⟩
theorem dpa3 {e f : PyData} (h : DpAll K H vs [d, e, f]) : ∃ v w u, vs = [v, w, u] ∧ Dp K H v d ∧ Dp K H w e ∧ Dp K H u f := by
  obtain ⟨v, ws, rfl, h1, h2⟩ := dpa_cons h
  obtain ⟨w, u, rfl, h3, h4⟩ := dpa2 h2
  exact ⟨v, w, u, rfl, h1, h3, h4⟩
theorem dpa4 {e f g : PyData} (h : DpAll K H vs [d, e, f, g]) : ∃ v w u z, vs = [v, w, u, z] ∧ Dp K H v d ∧ Dp K H w e ∧ Dp K H u f ∧ Dp K H z g := by
  obtain ⟨v, ws, rfl, h1, h2⟩ := dpa_cons h
  obtain ⟨w, u, z, rfl, h3, h4, h5⟩ := dpa3 h2
  exact ⟨v, w, u, z, rfl, h1, h3, h4, h5⟩
theorem DpAll.length : ∀ {vs : List V} {ds : List PyData}, DpAll K H vs ds → vs.length = ds.length
  | _, _, .nil => rfl
  | _, _, .cons _ t => congrArg (· + 1) (DpAll.length t)
theorem DpAll.get : ∀ {vs : List V} {ds : List PyData} {i : Nat} {v : V}, DpAll K H vs ds → vs[i]? = some v → ∃ d, ds[i]? = some d ∧ Dp K H v d
  | _, _, 0, _, .cons h _, e => by
    cases e
    exact ⟨_, rfl, h⟩
  | _, _, i + 1, _, .cons _ t, e => DpAll.get (i := i) t e
theorem DpAll.get' : ∀ {vs : List V} {ds : List PyData} {i : Nat} {d : PyData}, DpAll K H vs ds → ds[i]? = some d → ∃ v, vs[i]? = some v ∧ Dp K H v d
  | _, _, 0, _, .cons h _, e => by
    cases e
    exact ⟨_, rfl, h⟩
  | _, _, i + 1, _, .cons _ t, e => DpAll.get' (i := i) t e
theorem DpAll.append : ∀ {vs ws : List V} {ds es : List PyData}, DpAll K H vs ds → DpAll K H ws es → DpAll K H (vs ++ ws) (ds ++ es)
  | _, _, _, _, .nil, t => t
  | _, _, _, _, .cons h r, t => .cons h (DpAll.append r t)
theorem dpa_strs : ∀ zs : List (List Nat), DpAll K H (zs.map fun z => V.str (S z)) (zs.map DStr)
  | [] => .nil
  | z :: zs => .cons (.str _) (dpa_strs zs)
theorem dpa_strs_inv : ∀ {zs : List (List Nat)} {vs : List V}, DpAll K H vs (zs.map DStr) → vs = zs.map fun z => V.str (S z)
  | [], _, h => dpa_nil h
  | z :: zs, _, h => by
    obtain ⟨v, ws, rfl, h1, h2⟩ := dpa_cons h
    rw [dp_str h1, dpa_strs_inv h2] <;> rfl
theorem dp_strs {zs : List (List Nat)} (h : Dp K H v (strsD zs)) : ∃ a, v = .ref a ∧ SqT K H a (zs.map fun z => V.str (S z)) := by
  obtain ⟨a, xs, rfl, h1, h2⟩ := dp_tup h
  rw [dpa_strs_inv h2] at h1
  exact ⟨a, rfl, h1⟩
theorem dp_strs_mk {zs : List (List Nat)} {a : Addr} (h : SqT K H a (zs.map fun z => V.str (S z))) : Dp K H (.ref a) (strsD zs) := .tup h (dpa_strs zs)
mutual
theorem Dp.tups (t : Tups H H') : ∀ {v : V} (d : PyData), noL d = true → Dp K H v d → Dp K H' v d
  | _, .none, _, h => by cases h; exact .non
  | _, .bool b, _, h => by cases h; exact .bl b
  | _, .int i, _, h => by cases h; exact .int i
  | _, .str x, _, h => by cases h; exact .str x
  | _, .list _, n, _ => absurd n (by simp [noL])
  | _, .dict _, n, _ => absurd n (by simp [noL])
  | _, .tuple ds, n, h => by
    obtain ⟨a, xs, e, h1, h2⟩ := dp_tup h
    rw [e]
    exact .tup (t.sq h1) (DpAll.tups t ds (by simpa [noL] using n) h2)
theorem DpAll.tups (t : Tups H H') : ∀ {vs : List V} (ds : List PyData), noLAll ds = true → DpAll K H vs ds → DpAll K H' vs ds
  | _, [], _, h => by rw [dpa_nil h]; exact .nil
  | _, d :: ds, n, h => by
    obtain ⟨v, ws, e, h1, h2⟩ := dpa_cons h
    have n' : noL d = true ∧ noLAll ds = true := by simpa [noLAll] using n
    rw [e]
    exact .cons (Dp.tups t d n'.1 h1) (DpAll.tups t ds n'.2 h2)
end
theorem noL_strs : ∀ zs : List (List Nat), noLAll (zs.map DStr) = true
  | [] => by simp [noLAll]
  | z :: zs => by
    have := noL_strs zs
    simp [noLAll, noL, this]
theorem noL_strsD (zs : List (List Nat)) : noL (strsD zs) = true := by
  simp only [strsD, noL]
  exact noL_strs zs
end
/-- the names of a world -/
structure Cast where
  rows : List (List Nat)
  places : List (List Nat)
  numbers : List (List Nat)
def castD (C : Cast) : PyData := .tuple [strsD C.rows, strsD C.places, strsD C.numbers]
def worldD (C : Cast) (sp : List (List Nat)) : PyData := .tuple [castD C, strsD sp]
theorem noL_castD (C : Cast) : noL (castD C) = true := by simp [castD, noL, noLAll, noL_strsD]
theorem noL_worldD (C : Cast) (sp : List (List Nat)) : noL (worldD C sp) = true := by simp [worldD, noL, noLAll, noL_strsD, noL_castD]
abbrev strV (zs : List (List Nat)) : List V := zs.map fun z => V.str (S z)
section
variable {K : PySem.W.Frag} {H : Hp} {v : V}
theorem dp_cast {C : Cast} (h : Dp K H v (castD C)) : ∃ a r p n, v = .ref a ∧ SqT K H a [.ref r, .ref p, .ref n] ∧ SqT K H r (strV C.rows) ∧ SqT K H p (strV C.places) ∧ SqT K H n (strV C.numbers) := by
  obtain ⟨a, xs, rfl, h1, h2⟩ := dp_tup h
  obtain ⟨v, w, u, rfl, h3, h4, h5⟩ := dpa3 h2
  obtain ⟨r, rfl, g3⟩ := dp_strs h3
  obtain ⟨p, rfl, g4⟩ := dp_strs h4
  obtain ⟨n, rfl, g5⟩ := dp_strs h5
  exact ⟨a, r, p, n, rfl, h1, g3, g4, g5⟩
theorem dp_world {C : Cast} {sp : List (List Nat)} (h : Dp K H v (worldD C sp)) : ∃ a c s, v = .ref a ∧ SqT K H a [.ref c, .ref s] ∧ Dp K H (.ref c) (castD C) ∧ SqT K H s (strV sp) := by
  obtain ⟨a, xs, rfl, h1, h2⟩ := dp_tup h
  obtain ⟨v, w, rfl, h3, h4⟩ := dpa2 h2
  obtain ⟨s, rfl, g4⟩ := dp_strs h4
  obtain ⟨c, _, _, _, rfl, _⟩ := dp_cast h3
  exact ⟨a, c, s, rfl, h1, h3, g4⟩
end

/-! ### the deck -/
/-- at p the deck: three whole numbers; at most c were drawn by count -/
def Deck (H : Hp) (p : Addr) (c : Nat) : Prop := ∃ a b m : Int, H p = some (.lst [.int a, .int b, .int m]) ∧ 0 ≤ a ∧ 0 ≤ b ∧ b ≤ (c : Int) ∧ 0 ≤ m ∧ m < 2147483647
section
variable {H H' : Hp} {p q : Addr} {o : HO} {c c' : Nat} {xs : List V}
theorem Deck.lst (d : Deck H p c) : ∃ l, H p = some (.lst l) := by
  obtain ⟨a, b, m, h, _⟩ := d
  exact ⟨_, h⟩
theorem Deck.mono (d : Deck H p c) (h : c ≤ c') : Deck H p c' := by
  obtain ⟨a, b, m, h0, h1, h2, h3, h4⟩ := d
  exact ⟨a, b, m, h0, h1, h2, by omega, h4⟩
theorem Deck.same (d : Deck H p c) (s : Same H H') : Deck H' p c := by
  obtain ⟨a, b, m, h0, h⟩ := d
  exact ⟨a, b, m, s _ _ h0, h⟩
theorem Deck.new (d : Deck H p c) (h : H q = none) : Deck (upd H q o) p c := d.same (same_new h)
theorem Deck.ne (d : Deck H p c) (h : H q = none) : q ≠ p := by
  obtain ⟨l, e⟩ := d.lst
  intro z
  rw [z, e] at h
  cases h
theorem Deck.tups (d : Deck H p c) (k : Keep p H H') : Tups H H' := by
  obtain ⟨l, e⟩ := d.lst
  exact k.tups e
theorem Deck.updL (d : Deck H p c) (n : q ≠ p) : Deck (upd H q o) p c := by
  obtain ⟨a, b, m, h0, h⟩ := d
  exact ⟨a, b, m, by rw [upd_ne (Ne.symm n)]; exact h0, h⟩
end

/-! ### small words -/
theorem sz_small {n : Nat} (h : n ≤ 16000000) : n ≤ sizeLine := Nat.le_trans h (by decide)
theorem sz_lt {n : Nat} (h : n < 16000000) : n < sizeLine := Nat.lt_of_lt_of_le h (by decide)
section
variable {K : PySem.W.Frag} {H : Hp} {Q : VK} {a b : Addr} {xs ys : List V} {lo hi : Option Int}
/-- t + u, wherever it lies -/
theorem cat_use (ha : SqT K H a xs) (hb : SqT K H b ys) (hz : xs.length + ys.length ≤ 16000000) (q : ∀ p H', Same H H' → SqT K H' p (xs ++ ys) → Q (.ref p) H') : rCatA K (.ref a) (.ref b) H Q := by
  refine ⟨a, b, xs, ys, rfl, rfl, ha, hb, sz_small hz, fun e => ?_, fun _ e => ?_, fun _ _ p hp => ?_⟩
  · subst e
    exact q b H (Same.refl H) hb
  · subst e
    refine q a H (Same.refl H) ?_
    rw [List.append_nil]
    exact ha
  · exact q p _ (same_new hp) (SqT.of upd_same)
theorem cut_use (ha : SqT K H a xs) (q : ∀ p H', Same H H' → SqT K H' p (cutV xs lo hi) → Q (.ref p) H') : rSlA K (.ref a) lo hi H Q := by
  refine ⟨a, xs, rfl, ha, fun e => ?_, fun _ p hp => ?_⟩
  · refine q a H (Same.refl H) ?_
    have e2 : cutV xs lo hi = xs := by
      unfold cutV
      rw [e.1, e.2, List.drop_zero, Nat.sub_zero, List.take_length]
    rw [e2]
    exact ha
  · exact q p _ (same_new hp) (SqT.of upd_same)
end

/-! ### a tuple's items, backwards: t[a:b:-1] -/
/-- what t[lo:hi:-1] holds -/
def backV {α : Type} (xs : List α) (lo hi : Option Int) : List α :=
  (List.range (Builtin.Slice.slicePlaces (Builtin.Slice.sliceAdjust lo hi (-1) (xs.length : Int)).1 (Builtin.Slice.sliceAdjust lo hi (-1) (xs.length : Int)).2 (-1))).filterMap
    fun (k : Nat) => xs[((Builtin.Slice.sliceAdjust lo hi (-1) (xs.length : Int)).1 + (k : Int) * (-1)).toNat]?
theorem vals_pick {xs : List V} {us : List Value} (r : Vals xs us) (f : Nat → Nat) : ∀ l : List Nat, Vals (l.filterMap fun k => xs[f k]?) (l.filterMap fun k => us[f k]?)
  | [] => .nil
  | k :: l => by
    have ih := vals_pick r f l
    cases e : xs[f k]? with
    | none =>
      have e2 : us[f k]? = none := r.none_of e
      rw [List.filterMap_cons, List.filterMap_cons, e, e2]
      exact ih
    | some v =>
      obtain ⟨u, e2, rv⟩ := r.get e
      rw [List.filterMap_cons, List.filterMap_cons, e, e2]
      exact .cons rv ih
theorem filterMap_le {α β : Type} (f : α → Option β) : ∀ l : List α, (l.filterMap f).length ≤ l.length
  | [] => Nat.le_refl _
  | a :: l => by
    have ih := filterMap_le f l
    rw [List.filterMap_cons]
    cases f a with
    | none => exact Nat.le_succ_of_le ih
    | some b => exact Nat.succ_le_succ ih
section
variable {prog : Program} {w : World} {A : Around} {E : Value → Shared → Prop} {s : Shared}
open HT in
theorem getItem_tuple_back {t sl : Addr} {items : Array Value} {vl vu vs : Value} {lo hi : Option Int} {Q : Value → Shared → Prop} (ht : IsTup s.heap t items) (hs : s.heap.IsSliceOf sl vl vu vs) (pl : IsPart vl lo) (pu : IsPart vu hi) (ps : IsPart vs (some (-1)))
    (h : Q (.ref s.heap.objs.size) { s with heap := s.heap.push { cls := .type "tuple", data := .seq (backV items.toList lo hi).toArray } })
    (hsz : (backV items.toList lo hi).length ≤ sizeLine) : wpAny (model prog w) A (getItem (.ref t) (.ref sl)) Q E s := by
  obtain ⟨os, hos, hcs, hds⟩ := id hs
  have hTs : s.TypeIs (.ref sl) "slice" := ⟨os, hos, hcs⟩
  have htake : sizeOk (.seq (backV items.toList lo hi).toArray) := by
    show (backV items.toList lo hi).toArray.size ≤ sizeLine
    rw [List.size_toArray]
    exact hsz
  unfold getItem
  try with_reducible refine wpAny_holding ?_
  first | refine wpAny_bind (wpAny_pure ?_) | skip
  refine wpAny_bind (wpAny_sequenceKey ht.typeIs (by decide) ?_)
  refine wpAny_bind (wpAny_callSpecial?_slot (name := Str.ofString "__getitem__") ht.typeIs PyProof.Rows.slot_tuple_getitem
    (wpAny_call_entry PyProof.Rows.slot_tuple_getitem ht.typeIs entry_tuple_getitem ?_ (args_tuple_getitem _ _)))
  show wpAny _ _ (Builtin.Tuple.tupleItemsOf (.ref t) >>= _) _ _ s
  refine wpAny_bind (tupleItemsOf_ ht ?_)
  refine wpAny_bind (wpAny_typeOf hTs ?_)
  rw [if_pos (by decide)]
  refine wpAny_bind (Q := _) ?_
  · unfold Builtin.Slice.sliceApplied Builtin.Slice.sliceFields
    refine wpAny_bind (wpAny_bind (wpAny_field hos hds (x := vl) rfl (wpAny_bind (wpAny_field hos hds (x := vu) rfl (wpAny_bind (wpAny_field hos hds (x := vs) rfl (wpAny_pure ?_)))))))
    refine wpAny_bind (slicePart_ ps ?_)
    show wpAny _ _ (if ((-1 : Int) == 0) = true then _ else _) _ _ s
    rw [if_neg (by decide)]
    refine wpAny_bind (slicePart_ pl (wpAny_bind (slicePart_ pu (wpAny_bind (wpAny_pure ?_)))))
    show wpAny _ _ (pure ((Builtin.Slice.sliceAdjust lo hi (-1) ((items.size : Nat) : Int)).1, (-1 : Int), Builtin.Slice.slicePlaces (Builtin.Slice.sliceAdjust lo hi (-1) ((items.size : Nat) : Int)).1 (Builtin.Slice.sliceAdjust lo hi (-1) ((items.size : Nat) : Int)).2 (-1))) _ _ s
    refine wpAny_pure ?_
    have hno : ¬ (((Builtin.Slice.sliceAdjust lo hi (-1) ((items.size : Nat) : Int)).1 == 0 && (-1 : Int) == 1 && (Builtin.Slice.slicePlaces (Builtin.Slice.sliceAdjust lo hi (-1) ((items.size : Nat) : Int)).1 (Builtin.Slice.sliceAdjust lo hi (-1) ((items.size : Nat) : Int)).2 (-1)) == items.size) = true) := by
      rw [show ((-1 : Int) == 1) = false from rfl, Bool.and_false, Bool.false_and]
      exact Bool.false_ne_true
    show wpAny _ _ (if ((Builtin.Slice.sliceAdjust lo hi (-1) ((items.size : Nat) : Int)).1 == 0 && (-1 : Int) == 1 && (Builtin.Slice.slicePlaces (Builtin.Slice.sliceAdjust lo hi (-1) ((items.size : Nat) : Int)).1 (Builtin.Slice.sliceAdjust lo hi (-1) ((items.size : Nat) : Int)).2 (-1)) == items.size) = true then _ else _) _ _ s
    rw [if_neg hno]
    have e : (List.range (Builtin.Slice.slicePlaces (Builtin.Slice.sliceAdjust lo hi (-1) ((items.size : Nat) : Int)).1 (Builtin.Slice.sliceAdjust lo hi (-1) ((items.size : Nat) : Int)).2 (-1))).filterMap (fun (k : Nat) => items[((Builtin.Slice.sliceAdjust lo hi (-1) ((items.size : Nat) : Int)).1 + (k : Int) * (-1)).toNat]?) = backV items.toList lo hi := by
      unfold backV
      simp only [Array.length_toList, Array.getElem?_toList]
    rw [e]
    first
      | exact wpAny_bind (m := Builtin.Tuple.tupleExact _) (wpAny_newObj_type (wpAny_pure ⟨_, rfl, wpAny_pure h⟩) htake)
      | exact wpAny_bind (m := Builtin.Tuple.tupleExact _) (wpAny_newObj_type (wpAny_bind (wpAny_pure (wpAny_pure ⟨_, rfl, wpAny_pure h⟩))) htake)
      | exact wpAny_bind (wpAny_bind (m := Builtin.Tuple.tupleExact _) (wpAny_newObj_type (wpAny_pure (wpAny_pure ⟨_, rfl, wpAny_pure h⟩)) htake))
      | exact wpAny_bind (wpAny_bind (m := Builtin.Tuple.tupleExact _) (wpAny_newObj_type (wpAny_pure ⟨_, rfl, wpAny_pure h⟩) htake))
end
section
variable {X : Cx}
def tBackT (K : PySem.W.Frag) (te : TE) (tl th : TO) : TE := fun σ H Q => te σ H fun x H1 => tl σ H1 fun lo H2 => th σ H2 fun hi H3 => ∃ a xs, x = .ref a ∧ SqT K H3 a xs ∧ (backV xs lo hi).length ≤ sizeLine ∧ ∀ p, H3 p = none → Q (.ref p) (upd H3 p (.tup (backV xs lo hi)))
theorem pe_stepT {e : Expr} {te : TE} {lo hi : Option Expr} {tl th : TO} {k : Nat} {p1 p2 p3 pos : Pos} (he : PE X e te) (hl : PO X lo tl) (hu : PO X hi th) :
    PE X (.Subscript e (.Slice lo hi (some (.UnaryOp .USub (.Constant (.int 1) k p1) p2)) p3) pos) (tBackT X.K te tl th) := by
  refine ⟨fun pins s σ H Q I h => ?_⟩
  refine Subscript_ (thn (he.run pins s σ H _ I h) fun v s1 ⟨x, H1, I1, r1, q1⟩ => ?_)
  have hst : PO X (some (.UnaryOp .USub (.Constant (.int 1) k p1) p2)) (tPart (tUn (rU fun i => .int (-i)) (tC (.int 1)))) := po_some (pe_un un_neg pe_int)
  refine wpAny_Slice (thn (hl.run pins s1 σ H1 _ I1 q1) fun vl s2 ⟨l, H2, I2, pl, q2⟩ => thn (hu.run pins s2 σ H2 _ I2 q2) fun vu s3 ⟨u, H3, I3, pu, q3⟩ => ?_)
  obtain ⟨a, xs, ex, hx, hz, q⟩ := q3
  subst ex
  cases r1
  refine thn (hst.run pins s3 σ H3 (fun o H4 => o = some (-1) ∧ H4 = H3) I3 ⟨1, rfl, -1, rfl, rfl, rfl⟩) fun vs s4 ⟨o, H4, I4, ps, eo, e4⟩ => ?_
  subst eo e4
  have I5 : Inv X pins σ H4 { s4 with heap := s4.heap.push { cls := .type "slice", data := .fields #[vl, vu, vs] } } := I4.kept (t' := s4.toks) fun b ob q => Heap.get?_push_of_some _ q
  obtain ⟨its, r, ht, hzz⟩ := I5.tuple hx
  have hlen := r.length
  have evals : Vals (backV xs l u) (backV its l u) := by
    unfold backV
    rw [← hlen]
    exact vals_pick r _ _
  show wpAny (model X.prog X.w) X.A (subscriptTail e (.Slice lo hi (some (.UnaryOp .USub (.Constant (.int 1) k p1) p2)) p3) (.ref a) (.ref s4.heap.objs.size)) (EP X pins σ Q) X.xe { s4 with heap := s4.heap.push { cls := .type "slice", data := .fields #[vl, vu, vs] } }
  refine tail_any (ops := [.ref a, .ref s4.heap.objs.size]) ht.typeIs (PyProof.Rows.slot_tuple_getitem.lookup) ?_ (by with_unfolding_all rfl)
  refine getItem_tuple_back ht (Heap.IsSliceOf.new _ vl vu vs) pl pu ps ?_ (by rw [← evals.length]; exact hz)
  refine ⟨.ref _, _, I5.laid (t' := s4.toks) (o := .tup (backV xs l u)) (fun b ob q => Heap.get?_push_of_some _ q) (Nat.le_refl _) ?_, rfl, q _ (I5.hok.fresh (Nat.le_refl _))⟩
  exact ⟨hz, _, evals, IsTup.new _ _⟩
end
end Ep

/-! 2. The module's facts; a def by its body. -/
namespace Ep
open PySem PySem.Spec PyProof.Rows L2 SX
open C8 (Cal Met Mak Def cal0 met0 mak0 pe_c pe_mk pe_mt pe_mt0 fnBody fnScope fnArgs fnScope_by pe_gc pss_cut)
/-- where the module's tuples stand -/
structure Ad where
  words : Addr
  compared : Addr
  placed : Addr
  joined : Addr
  passed : Addr
  comparing : Addr
  placing : Addr
  joining : Addr
def zWords : List Str := (["end", "most", "less", "same", "unlike", "ahead", "here", "next", "not", "and", "or", "if", "each", "pairs", "nexts", "least", "more", "row", "place", "number", "put", "swap", "set", "stand", "begin", "go", "while", "kept", "changed", "exchanged", "turned", "moved", "front", "back"] : List String).map Str.ofString
def zCompared : List Str := (["most", "less", "same", "unlike"] : List String).map Str.ofString
def zPlaced : List Str := (["ahead", "here"] : List String).map Str.ofString
def zJoined : List Str := (["and", "or"] : List String).map Str.ofString
def zPassed : List Str := (["most", "less", "same", "least", "more"] : List String).map Str.ofString
def zPlacing : List Str := (["ahead", "here", "next"] : List String).map Str.ofString
def zLetters : List Nat := [97, 98, 99, 100, 101, 102, 103, 104, 105, 106, 107, 108, 109, 110, 111, 112, 113, 114, 115, 116, 117, 118, 119, 120, 121, 122]
/-- what the module's names hold -/
structure Tx (K : PySem.W.Frag) (mg : Str → Option Value) (A : Ad) : Prop where
  len_ : mg "len" = none
  all_ : mg "all" = none
  isinstance_ : mg "isinstance" = none
  int_ : mg "int" = none
  str_ : mg "str" = none
  bool_ : mg "bool" = none
  tuple_ : mg "tuple" = none
  sorted_ : mg "sorted" = none
  range_ : mg "range" = none
  vLETTERS : ∃ u, mg "LETTERS" = some u ∧ RelV (.str "abcdefghijklmnopqrstuvwxyz") u
  vMOST_LETTERS : ∃ u, mg "MOST_LETTERS" = some u ∧ RelV (.int 8) u
  vWORDS : ∃ u, mg "WORDS" = some u ∧ RelV (.ref A.words) u
  tWORDS : ∀ H, SqT K H A.words (zWords.map V.str)
  vEND : ∃ u, mg "END" = some u ∧ RelV (.str "end") u
  vCOMPARED : ∃ u, mg "COMPARED" = some u ∧ RelV (.ref A.compared) u
  tCOMPARED : ∀ H, SqT K H A.compared (zCompared.map V.str)
  vPLACED : ∃ u, mg "PLACED" = some u ∧ RelV (.ref A.placed) u
  tPLACED : ∀ H, SqT K H A.placed (zPlaced.map V.str)
  vJOINED : ∃ u, mg "JOINED" = some u ∧ RelV (.ref A.joined) u
  tJOINED : ∀ H, SqT K H A.joined (zJoined.map V.str)
  vPASSED_ON : ∃ u, mg "PASSED_ON" = some u ∧ RelV (.ref A.passed) u
  tPASSED_ON : ∀ H, SqT K H A.passed (zPassed.map V.str)
  vFIGURES : ∃ u, mg "FIGURES" = some u ∧ RelV (.str "0123456789") u
  vMOST_FIGURES : ∃ u, mg "MOST_FIGURES" = some u ∧ RelV (.int 30) u
  vDEEPEST : ∃ u, mg "DEEPEST" = some u ∧ RelV (.int 40) u
  vCOMPARING : ∃ u, mg "COMPARING" = some u ∧ RelV (.ref A.comparing) u
  tCOMPARING : ∀ H, SqT K H A.comparing (zCompared.map V.str)
  vPLACING : ∃ u, mg "PLACING" = some u ∧ RelV (.ref A.placing) u
  tPLACING : ∀ H, SqT K H A.placing (zPlacing.map V.str)
  vJOINING : ∃ u, mg "JOINING" = some u ∧ RelV (.ref A.joining) u
  tJOINING : ∀ H, SqT K H A.joining (zJoined.map V.str)
/-- a def of the module stands under its name -/
structure Dfn (K : PySem.W.Frag) (mg : Str → Option Value) (x : Str) (st : Stmt) : Prop where
  ex : ∃ f fd, Def K mg x st f fd ∧ fd.defaults = .none
section
variable {P : Program} {w : World} {K : PySem.W.Frag} {mg : Str → Option Value} {base : Heap}
theorem cal_of {x : Str} {st : Stmt} {N ps : List Str} {k : Nat} {sp : Sp} (D : Dfn K mg x st) (S : FnScope N ps (fnScope st))
    (hb : ∀ (kV doc pm : Value) (an : Option Addr) (cdv ct : Value) (us : List Value), us.length = ps.length → bindArgs (PySem.W.fnOf x x (fnArgs st) (fnBody st) (fnScope st) .none kV doc pm an cdv ct) ⟨us, []⟩ = pure (ps.zip us))
    (len : ∀ vs H Q E, sp vs H Q E → vs.length = ps.length)
    (hbody : ∀ (f : Addr) (cdv : Value) (A : Around) (outer : List Env) (s : Shared) (H : Hp) (vs : List V) (Q : VK) (E : XK), Room k (A.deeper (envOfC x (fnScope st) s.heap.objs.size f cdv)) → sp vs H Q E →
      ∃ t, PSs (cxOf C8.CX0 P w K mg base N x (fnScope st) f cdv A outer s H E).nox (fnBody st) t ∧ t { nx := fun _ H' => Q .non H', rt := Q } (start N vs) H) : Cal P w K mg base (k + 1) x sp [] := by
  obtain ⟨f, fd, D, df⟩ := D.ex
  exact cal0 D (D.fn.binds df hb) .nil S len (hbody f)
end
/-! rules within a comprehension's block: the written part told -/
section
variable {X : Cx} {K : PySem.W.Frag}
theorem cr_sortedSK (h : X.K = K := by rfl) : CallR X (.builtin "sorted") (rSortedS K) := by
  subst h
  exact cr_sortedS
theorem call_tuple_ofK (h : X.K = K := by rfl) : CallR X (.type "tuple") (fun xs H Q => ∃ p ys, xs = [.ref p] ∧ ((SqL K H p ys ∧ ∀ l, H l = none → Q (.ref l) (upd H l (.tup ys))) ∨ (SqT K H p ys ∧ Q (.ref p) H))) := by
  subst h
  exact call_tuple_of
theorem ix_tupK (h : X.K = K := by rfl) : IxR X (rIxT K) := by
  subst h
  exact ix_tup
theorem ix_listK (h : X.K = K := by rfl) : IxR X (rIxL K) := by
  subst h
  exact ix_list
end
theorem len1 {vs : List V} {a : V} (h : vs = [a]) : vs.length = 1 := by rw [h]; rfl
end Ep

/-! 3. The law's own defs: the deck, a draw. -/
namespace Ep
open PySem PySem.Spec PyProof.Rows L2 SX
open C8 (Cal Met Mak Def cal0 met0 mak0 pe_c pe_mk pe_mt pe_mt0 fnBody fnScope fnArgs fnScope_by pe_gc pss_cut)
section
variable {P : Program} {w : World} {K : PySem.W.Frag} {mg : Str → Option Value} {base : Heap} {A : Ad}
/-! ### _law_deck -/
abbrev sDeck : Stmt := top 41
abbrev nDeck : List Str := ["_law_cell"]
theorem scDeck : FnScope nDeck ["_law_cell"] (fnScope sDeck) := fnScope_by (by decide +kernel)
def spDeck : Sp := fun vs H Q _ => ∃ n : Int, vs = [.int n] ∧ ∀ p H', H p = none → Same H H' → Deck H' p 0 → Q (.ref p) H'
theorem ok_deck (D : Dfn K mg "_law_deck" sDeck) : Cal P w K mg base 1 "_law_deck" spDeck [] := by
  refine cal_of D scDeck (fun _ _ _ _ _ _ us hl => match us, hl with | [_], _ => rfl) (fun vs H Q E h => ?_) (fun f cdv A outer s H vs Q E hr h => ?_)
  · obtain ⟨n, rfl, _⟩ := h
    rfl
  obtain ⟨n, rfl, q⟩ := h
  refine ⟨_, (pss_cons
    (ps_if (pt_cmpR op_lt (pv 0) (pe_op op_pow pe_int pe_int) (nomark _)) (pss_one
    (ps_ret (pe_lst (pa_cons pe_int (pa_cons pe_int (pa_cons (pe_op op_mod (pv 0) pe_int) pa_nil)))))) pss_nil)
    (pss_one
    (ps_ret (pe_lst (pa_cons (pv 0) (pa_cons pe_int (pa_cons (pe_op op_mod (pv 0) pe_int) pa_nil))))))), ?_⟩
  have m0 : 0 ≤ n % 2147483647 := Int.emod_nonneg n (by decide)
  have m1 : n % 2147483647 < 2147483647 := Int.emod_lt_of_pos n (by decide)
  refine ⟨_, rfl, 10, 18, rfl, rfl, ⟨by decide, by decide, by decide⟩, n, _, rfl, rfl, _, rfl, ?_⟩
  refine ite2 (fun c => ?_) (fun c => ?_)
  · refine ⟨_, rfl, _, _, rfl, rfl, (by show (0 : Int) < 2147483647; decide), sz_small (show 3 ≤ 16000000 by decide), fun p np => ?_⟩
    exact q p _ np (same_new np) ⟨0, 0, _, upd_same, by decide, by decide, by decide, m0, m1⟩
  · have c' : ¬ n < 10 ^ 18 := of_decide_eq_false (Bool.eq_false_iff.mpr c)
    refine ⟨_, rfl, _, rfl, _, _, rfl, rfl, (by show (0 : Int) < 2147483647; decide), sz_small (show 3 ≤ 16000000 by decide), fun p np => ?_⟩
    exact q p _ np (same_new np) ⟨n, 0, _, upd_same, by omega, by decide, by decide, m0, m1⟩
/-! ### _law_draw -/
abbrev sDraw : Stmt := top 42
abbrev nDraw : List Str := ["_law_deck_here", "_law_most", "_law_found", "_law_mixed"]
theorem scDraw : FnScope nDraw ["_law_deck_here", "_law_most"] (fnScope sDraw) := fnScope_by (by decide +kernel)
def spDraw : Sp := fun vs H Q _ => ∃ (p : Addr) (n : Int) (c : Nat), vs = [.ref p, .int n] ∧ Deck H p c ∧ 0 < n ∧ n < 1073741824 ∧ c < 1073741824 ∧
  ∀ (r : Int) H', Keep p H H' → Deck H' p (c + 1) → 0 ≤ r → r < n → Q (.int r) H'
theorem ok_draw (D : Dfn K mg "_law_draw" sDraw) : Cal P w K mg base 1 "_law_draw" spDraw [] := by
  refine cal_of D scDraw (fun _ _ _ _ _ _ us hl => match us, hl with | [_, _], _ => rfl) (fun vs H Q E h => ?_) (fun f cdv A outer s H vs Q E hr h => ?_)
  · obtain ⟨p, n, c, rfl, _⟩ := h
    rfl
  obtain ⟨p, n, c, rfl, ⟨a, b, m, h0, a0, b0, bc, m0, m1⟩, n0, n1, c1, q⟩ := h
  refine ⟨_, (pss_cons
    (ps_if (pt_cmpR op_gt (pe_ix ix_list (pv 0) pe_int (fun _ _ => rfl)) pe_int (nomark _)) (pss_cons
    (ps_set (i := 2) scDraw.nd rfl (Or.inl rfl) (pe_op op_modN (pe_ix ix_list (pv 0) pe_int (fun _ _ => rfl)) (pv 1)))
    (pss_cons
    (ps_asg (pe_op op_fdivN (pe_ix ix_list (pv 0) pe_int (fun _ _ => rfl)) (pv 1)) (pg_sub (pv 0) pe_int set_list))
    (pss_one
    (ps_ret (pv 2))))) pss_nil)
    (pss_cons
    (ps_asg (pe_op op_add (pe_ix ix_list (pv 0) pe_int (fun _ _ => rfl)) pe_int) (pg_sub (pv 0) pe_int set_list))
    (pss_cons
    (ps_set (i := 3) scDraw.nd rfl (Or.inl rfl) (pe_op op_modN (pe_op op_mul (pe_op op_add (pe_ix ix_list (pv 0) pe_int (fun _ _ => rfl)) (pe_op op_mul (pe_op op_mul pe_int (pe_ix ix_list (pv 0) pe_int (fun _ _ => rfl))) (pe_ix ix_list (pv 0) pe_int (fun _ _ => rfl)))) pe_int) pe_int))
    (pss_one
    (ps_ret (pe_op op_modN (pe_op op_fdivN (pe_op op_modN (pe_op op_mul (pv 3) (pe_op op_add (pv 3) pe_int)) pe_int) pe_int) (pv 1))))))), ?_⟩
  refine ⟨_, rfl, p, _, _, _, rfl, rfl, SqL.of h0, rfl, a, 0, rfl, rfl, _, rfl, ?_⟩
  refine ite2 (fun d => ?_) (fun d => ?_)
  · have d' : 0 < a := of_decide_eq_true d
    refine ⟨_, rfl, p, _, _, _, rfl, rfl, SqL.of h0, rfl, _, rfl, a, n, rfl, rfl, by omega, ?_⟩
    refine ⟨_, rfl, p, _, _, _, rfl, rfl, SqL.of h0, rfl, _, rfl, a, n, rfl, rfl, ⟨by omega, by omega⟩, ?_⟩
    refine ⟨_, rfl, p, _, 0, 0, rfl, rfl, h0, rfl, _, rfl, ?_⟩
    refine q _ _ (Keep.refl p H).upd ⟨_, b, m, upd_same, ?_, b0, by omega, m0, m1⟩ (Int.fmod_nonneg_of_pos a n0) (Int.fmod_lt_of_pos a n0)
    rw [Int.fdiv_eq_ediv_of_nonneg a (by omega)]
    exact Int.ediv_nonneg a0 (by omega)
  · refine ⟨_, rfl, p, _, _, _, rfl, rfl, SqL.of h0, rfl, b, 1, rfl, rfl, ?_⟩
    refine ⟨_, rfl, p, _, 1, 1, rfl, rfl, h0, rfl, ?_⟩
    have h1 : upd H p (.lst ([V.int a, V.int b, V.int m].set 1 (V.int (b + 1)))) p = some (.lst [V.int a, V.int (b + 1), V.int m]) := upd_same
    refine ⟨_, rfl, p, _, _, _, rfl, rfl, SqL.of h1, rfl, _, rfl, p, _, _, _, rfl, rfl, SqL.of h1, rfl, _, _, rfl, rfl, .inl ⟨by decide, by decide⟩, _, rfl, p, _, _, _, rfl, rfl, SqL.of h1, rfl, _, _, rfl, rfl, .inl ⟨by omega, by omega⟩, _, _, rfl, rfl, _, _, rfl, rfl, .inr ⟨by decide, by decide⟩, _, _, rfl, rfl, (by show (2147483647 : Int) ≠ 0; decide), ?_⟩
    generalize hx : Int.fmod ((m + 7919 * (b + 1) * (b + 1)) * 48271) 2147483647 = x
    have x0 : 0 ≤ x := by rw [← hx]; exact Int.fmod_nonneg_of_pos _ (by decide)
    have x1 : x < 2147483647 := by rw [← hx]; exact Int.fmod_lt_of_pos _ (by decide)
    refine ⟨_, rfl, _, rfl, _, _, rfl, rfl, _, _, rfl, rfl, .inl ⟨by omega, by omega⟩, _, _, rfl, rfl, (by show (2147483629 : Int) ≠ 0; decide), _, _, rfl, rfl, ⟨by decide, by decide⟩, _, rfl, _, _, rfl, rfl, by omega, ?_⟩
    exact q _ _ (Keep.refl p H).upd ⟨a, b + 1, m, h1, a0, by omega, by omega, m0, m1⟩ (Int.fmod_nonneg_of_pos _ n0) (Int.fmod_lt_of_pos _ n0)
end
end Ep

/-! 4. The law's own defs: names. -/
namespace Ep
open PySem PySem.Spec PyProof.Rows L2 SX
open C8 (Cal Met Mak Def cal0 met0 mak0 pe_c pe_mk pe_mt pe_mt0 fnBody fnScope fnArgs fnScope_by pe_gc pss_cut)
/-- a name: one to eight small letters -/
def nameOk (l : List Nat) : Bool := !l.isEmpty && decide (l.length ≤ 8) && l.all (fun c => decide (97 ≤ c) && decide (c ≤ 122))
theorem nameOk_iff {l : List Nat} : nameOk l = true ↔ l ≠ [] ∧ l.length ≤ 8 ∧ ∀ c ∈ l, 97 ≤ c ∧ c ≤ 122 := by
  unfold nameOk
  rw [Bool.and_eq_true, Bool.and_eq_true, List.all_eq_true, decide_eq_true_eq]
  constructor
  · rintro ⟨⟨h1, h2⟩, h3⟩
    refine ⟨fun e => ?_, h2, fun c hc => ?_⟩
    · rw [e] at h1
      cases h1
    · have := h3 c hc
      rw [Bool.and_eq_true, decide_eq_true_eq, decide_eq_true_eq] at this
      exact this
  · rintro ⟨h1, h2, h3⟩
    refine ⟨⟨?_, h2⟩, fun c hc => ?_⟩
    · cases l with
      | nil => exact absurd rfl h1
      | cons a r => rfl
    · rw [Bool.and_eq_true, decide_eq_true_eq, decide_eq_true_eq]
      exact h3 c hc
theorem at_of' {α : Type} {xs : List α} {z : Int} {j : Nat} {v : α} (e : z = (j : Int)) (h : xs[j]? = some v) : atI xs z = some v := by
  rw [e]
  exact atI_nat h
theorem pick {xs : List V} {r : Int} (h0 : 0 ≤ r) (h1 : r < (xs.length : Int)) : ∃ v, v ∈ xs ∧ atI xs r = some v := by
  have hl : r.toNat < xs.length := by omega
  exact ⟨xs[r.toNat], List.getElem_mem hl, at_of (j := r.toNat) (by omega) (List.getElem?_eq_getElem hl)⟩
theorem pickS {zs : List (List Nat)} {r : Int} (h0 : 0 ≤ r) (h1 : r < (zs.length : Int)) : ∃ z, z ∈ zs ∧ atI (strV zs) r = some (.str (S z)) := by
  obtain ⟨v, hv, e⟩ := pick (xs := strV zs) h0 (by rw [List.length_map]; exact h1)
  obtain ⟨z, hz, rfl⟩ := List.mem_map.mp hv
  exact ⟨z, hz, e⟩
def zTongue : List (List Nat) := (["end", "most", "less", "same", "unlike", "ahead", "here", "next", "not", "and", "or", "if", "each", "pairs", "nexts", "least", "more", "row", "place", "number", "put", "swap", "set", "stand", "begin", "go", "while", "kept", "changed", "exchanged", "turned", "moved", "front", "back"] : List String).map fun s => s.toList.map Char.toNat
def zSome : List (List Nat) := (["a", "b", "i", "j", "aa", "ab", "ends", "mostly", "rows", "c", "nexta", "placed"] : List String).map fun s => s.toList.map Char.toNat
theorem joinL_nil : ∀ cs : List Nat, TL.joinL [] (cs.map fun c => [c]) = cs
  | [] => rfl
  | [c] => rfl
  | c :: d :: r => congrArg (c :: ·) (joinL_nil (d :: r))
/-- a call without arguments, of a def under its name -/
theorem pe_c0 {X : Cx} {k j : Nat} {x : Str} {sp : Sp} {dvs : List V} {p pos : Pos} (c : Cal X.prog X.w X.K X.mg X.base k x sp dvs) (hr : Room j X.A) (hk : k ≤ j) (hg : Gl X x)
    (hdb : (x == ("__debug__" : Str)) = false := by decide) : PE X (.Call (.Name x p) [] [] pos) (tCall sp dvs C8.E0 tNil) := by
  obtain ⟨f, fd, ps, ds, F, hm, kp, b, d⟩ := c.ex
  exact pe_call0 F (hr.mono hk) hg hm kp b d C8.pass0 hdb
section
variable {P : Program} {w : World} {K : PySem.W.Frag} {mg : Str → Option Value} {base : Heap} {A : Ad}
/-! ### _law_tongue -/
abbrev sTongue : Stmt := top 43
abbrev nTongue : List Str := ["_law_words"]
theorem scTongue : FnScope nTongue [] (fnScope sTongue) := fnScope_by (by decide +kernel)
def spTongue : Sp := fun vs H Q _ => vs = [] ∧ ∀ p H', H p = none → Same H H' → H' p = some (.lst (strV zTongue)) → Q (.ref p) H'
theorem tongue_is : (Txt.split (("end most less same unlike ahead here next not and or if each pairs nexts least" : Str) ++ (" more row place number put swap set stand begin go while kept" : Str) ++ (" changed exchanged turned moved front back" : Str)) (" " : Str)).map V.str = strV zTongue := by
  decide +kernel
theorem ok_tongue (D : Dfn K mg "_law_tongue" sTongue) : Cal P w K mg base 1 "_law_tongue" spTongue [] := by
  refine cal_of D scTongue (fun _ _ _ _ _ _ us hl => match us, hl with | [], _ => rfl) (fun vs H Q E h => ?_) (fun f cdv A outer s H vs Q E hr h => ?_)
  · obtain ⟨rfl, _⟩ := h
    rfl
  obtain ⟨rfl, q⟩ := h
  refine ⟨_, (pss_cons
    (ps_set (i := 0) scTongue.nd rfl (Or.inl rfl) pe_str)
    (pss_cons
    (ps_set (i := 0) scTongue.nd rfl (Or.inl rfl) (pe_op op_add_str (pv 0) pe_str))
    (pss_cons
    (ps_set (i := 0) scTongue.nd rfl (Or.inl rfl) (pe_op op_add_str (pv 0) pe_str))
    (pss_one
    (ps_ret (pe_split (pv 0) pe_str)))))), ?_⟩
  refine ⟨_, rfl, _, _, rfl, rfl, by decide +kernel, _, rfl, _, _, rfl, rfl, by decide +kernel, _, rfl, ⟨_, rfl⟩, _, _, rfl, rfl, by decide +kernel, by decide +kernel, fun p np => ?_⟩
  rw [tongue_is]
  exact q p _ np (same_new np) upd_same
/-! ### _law_name -/
abbrev sName : Stmt := top 44
abbrev nName : List Str := ["_law_deck_here", "_law_letters", "_law_some", "_law_way", "_law_k"]
theorem scName : FnScope nName ["_law_deck_here"] (fnScope sName) := fnScope_by (by decide +kernel)
def spName : Sp := fun vs H Q _ => ∃ (p : Addr) (c : Nat), vs = [.ref p] ∧ Deck H p c ∧ c < 1000000000 ∧ ∀ z H', Keep p H H' → Deck H' p (c + 10) → nameOk z = true → Q (.str (S z)) H'
theorem zSome_ok : ∀ z ∈ zSome, nameOk z = true := by decide +kernel
theorem letters_at {r : Int} (h0 : 0 ≤ r) (h1 : r < 26) : ∃ d : Nat, atI (("abcdefghijklmnopqrstuvwxyz" : Str)).cps.toList r = some d ∧ 97 ≤ d ∧ d ≤ 122 := by
  have hl : ((("abcdefghijklmnopqrstuvwxyz" : Str)).cps.toList).length = 26 := by decide +kernel
  have hlt : r.toNat < ((("abcdefghijklmnopqrstuvwxyz" : Str)).cps.toList).length := by omega
  have hm := List.getElem_mem hlt
  have all : ∀ x ∈ (("abcdefghijklmnopqrstuvwxyz" : Str)).cps.toList, 97 ≤ x ∧ x ≤ 122 := by decide +kernel
  exact ⟨_, at_of' (j := r.toNat) (by omega) (List.getElem?_eq_getElem hlt), all _ hm⟩
theorem ok_name (T : Tx K mg A) (c_draw : Cal P w K mg base 1 "_law_draw" spDraw []) (D : Dfn K mg "_law_name" sName) : Cal P w K mg base 2 "_law_name" spName [] := by
  refine cal_of D scName (fun _ _ _ _ _ _ us hl => match us, hl with | [_], _ => rfl) (fun vs H Q E h => ?_) (fun f cdv A outer s H vs Q E hr h => ?_)
  · obtain ⟨p, c, rfl, _⟩ := h
    rfl
  obtain ⟨p, c, rfl, dk, c1, q⟩ := h
  refine ⟨_, (pss_cons
    (ps_set (i := 1) scName.nd rfl (Or.inr rfl) pe_str)
    (pss_cons
    (ps_set (i := 2) scName.nd rfl (Or.inl rfl) (pe_lst (pa_cons pe_str (pa_cons pe_str (pa_cons pe_str (pa_cons pe_str (pa_cons pe_str (pa_cons pe_str (pa_cons pe_str (pa_cons pe_str (pa_cons pe_str (pa_cons pe_str (pa_cons pe_str (pa_cons pe_str pa_nil))))))))))))))
    (pss_cons
    (ps_set (i := 3) scName.nd rfl (Or.inl rfl) (pe_c c_draw hr (by decide) (by rfl) (pa_cons (pv 0) (pa_cons pe_int pa_nil))))
    (pss_cons
    (ps_if (pt_cmpR op_lt (pv 3) pe_int (nomark _)) (pss_one
    (ps_ret (pe_ix ix_list (pv 2) (pv 3) (fun _ _ => rfl)))) pss_nil)
    (pss_one
    (ps_ret (pe_join pe_str (pe_lc (own := [("_law_k", 4)]) (g := gName 4) (tt := tYes) rfl scName.nd (pi_range1 rfl T.range_ (pa_cons (pe_op op_add pe_int (pe_c c_draw hr (by decide) (by rfl) (pa_cons (pv 0) (pa_cons pe_int pa_nil)))) pa_nil)) (blkOk_by (own := [("_law_k", 4)]) (N := nName) (sc := fnScope sName) (by decide +kernel)) (fun _ _ _ _ _ => pg_name (i := 4) scName.nd rfl (Or.inl rfl)) (fun _ _ _ _ _ => pts_nil) (fun _ _ _ _ _ => (pe_ix ix_str (pv 1) (pe_c c_draw hr (by decide) (by rfl) (pa_cons (pv 0) (pa_cons pe_int pa_nil))) (fun _ _ => rfl))))))))))), ?_⟩
  refine ⟨sz_small (show 12 ≤ 16000000 by decide), fun l nl => ?_⟩
  have d1 : Deck (upd H l (.lst [.str "a", .str "b", .str "i", .str "j", .str "aa", .str "ab", .str "ends", .str "mostly", .str "rows", .str "c", .str "nexta", .str "placed"])) p c := dk.new nl
  have nlp := dk.ne nl
  refine ⟨_, rfl, p, 18, c, rfl, d1, by decide, by decide, by omega, fun r H1 k1 d2 r0 r1 => ?_⟩
  have hl : H1 l = some (.lst (strV zSome)) := by
    rw [k1 l _ nlp upd_same]
    exact congrArg (fun x => some (HO.lst x)) (by decide +kernel)
  have K1 : Keep p H H1 := (Keep.of (same_new nl)).trans k1
  refine ⟨_, rfl, r, 12, rfl, rfl, _, rfl, ?_⟩
  refine ite2 (fun e => ?_) (fun e => ?_)
  · have e' : r < 12 := of_decide_eq_true e
    obtain ⟨z, hz, ez⟩ := pickS (zs := zSome) r0 e'
    exact ⟨_, rfl, _, rfl, l, _, r, _, rfl, rfl, SqL.of hl, ez, q z H1 K1 (d2.mono (by omega)) (zSome_ok z hz)⟩
  · refine ⟨⟨_, rfl⟩, _, rfl, p, 8, c + 1, rfl, d2, by decide, by decide, by omega, fun n H2 k2 d3 n0 n1 => ?_⟩
    refine ⟨_, _, rfl, rfl, _, rfl, by omega, by omega, fun L nL => ?_⟩
    have nLp := d3.ne nL
    have nLH : H L = none := (K1.trans k2).free nL nLp
    refine lc_range (lo := 0) (n := (1 + n).toNat) (fun i H' => ∃ cs : List Nat, cs.length = i ∧ (∀ x ∈ cs, 97 ≤ x ∧ x ≤ 122) ∧ Keep p H H' ∧ Deck H' p (c + 2 + i) ∧ H' L = some (.lst (cs.map fun x => V.str (S [x])))) ⟨[], rfl, (fun _ h => nomatch h), (K1.trans k2).trans (Keep.of (same_new nL)), d3.new nL, upd_same⟩ ?_ ?_
    · rintro i H3 hi ⟨cs, el, hc, k3, d4, hL⟩
      refine ⟨rfl, _, rfl, _, rfl, p, 26, c + 2 + i, rfl, d4, by decide, by decide, by omega, fun x H4 k4 d5 x0 x1 => ?_⟩
      obtain ⟨d, ed, h1, h2⟩ := letters_at x0 x1
      refine ⟨_, x, d, rfl, rfl, by decide +kernel, ed, ?_⟩
      have hL4 := k4 L _ nLp hL
      refine ⟨_, hL4, sz_lt (by rw [List.length_map]; omega), cs ++ [d], ?_, ?_, (k3.trans k4).updN nLH, d5.updL nLp, ?_⟩
      · rw [List.length_append, el] <;> rfl
      · intro y hy
        rcases List.mem_append.mp hy with hy | hy
        · exact hc y hy
        · rw [List.mem_singleton.mp hy]
          exact ⟨h1, h2⟩
      · rw [upd_same, List.map_append] <;> rfl
    · rintro H3 ⟨cs, el, hc, k3, d4, hL⟩
      have hw : (cs.map fun x => V.str (S [x])) = ((cs.map fun x => [x]).map S).map V.str := by rw [List.map_map, List.map_map] <;> rfl
      rw [hw] at hL
      have ln : ((cs.map fun x => [x]).map S).length = cs.length := by rw [List.length_map, List.length_map]
      have lsum : ((((cs.map fun x => [x]).map S).map (·.length)).sum) = cs.length := by
        clear hw hL hc el
        induction cs with
        | nil => rfl
        | cons a r ih =>
          show (S [a]).length + (((r.map fun x => [x]).map S).map (·.length)).sum = r.length + 1
          rw [ih, S_len] <;> first | (show 1 + r.length = _; omega) | (rw [List.length_map, List.length_map])
      refine ⟨_, L, _, rfl, rfl, .inl (SqL.of hL), ?_, ?_⟩
      · rw [lsum, ln, show (Str.ofString "").length = 0 by decide +kernel]
        omega
      · have ej : Txt.join (Str.ofString "") ((cs.map fun x => [x]).map S) = S cs := by
          rw [show Str.ofString "" = S [] by decide +kernel, join_S, joinL_nil]
        rw [ej]
        refine q cs H3 k3 (d4.mono (by omega)) (nameOk_iff.mpr ⟨fun z => ?_, by omega, hc⟩)
        rw [z] at el
        have : (1 + n).toNat = 0 := el.symm
        omega
end
end Ep

/-! 5. Names that are new: the law's while comes to an end. -/
namespace Ep
open PySem PySem.Spec PyProof.Rows L2 SX
def zBarred : List (List Nat) := zTongue ++ (["holds", "broken", "yes", "no", "ok"] : List String).map fun s => s.toList.map Char.toNat
/-- the letter that follows -/
def nx (c : Nat) : Nat := if c = 122 then 97 else c + 1
def nxN : Nat → Nat → Nat
  | 0, c => c
  | m + 1, c => nxN m (nx c)
def shift : List Nat → List Nat
  | [] => []
  | c :: t => nx c :: t
def shiftN : Nat → List Nat → List Nat
  | 0, z => z
  | m + 1, z => shiftN m (shift z)
theorem shiftN_cons : ∀ (m c : Nat) (t : List Nat), shiftN m (c :: t) = nxN m c :: t
  | 0, _, _ => rfl
  | m + 1, c, t => shiftN_cons m (nx c) t
theorem nx_all : ∀ c ∈ zLetters, ∀ d ∈ zLetters, ∃ m ∈ List.range 26, nxN m c = d := by decide +kernel
theorem mem_letters {c : Nat} (h : 97 ≤ c ∧ c ≤ 122) : c ∈ zLetters := by
  have h0 : ∀ k ∈ List.range 26, 97 + k ∈ zLetters := by decide +kernel
  have h1 := h0 (c - 97) (List.mem_range.mpr (by omega))
  rw [show 97 + (c - 97) = c by omega] at h1
  exact h1
theorem letters_mem {c : Nat} (h : c ∈ zLetters) : 97 ≤ c ∧ c ≤ 122 := by
  have h0 : ∀ k ∈ zLetters, 97 ≤ k ∧ k ≤ 122 := by decide +kernel
  exact h0 c h
theorem letters_nodup : zLetters.Nodup := by decide +kernel
/-- few barred words part by their first letter alone -/
theorem barred_few (t : List Nat) : (zBarred.filter fun b => decide (b.tail = t)).length ≤ 2 := by
  by_cases h : t ∈ zBarred.map List.tail
  · have h0 : ∀ u ∈ zBarred.map List.tail, (zBarred.filter fun b => decide (b.tail = u)).length ≤ 2 := by decide +kernel
    exact h0 t h
  · have e : zBarred.filter (fun b => decide (b.tail = t)) = [] := by
      rw [List.filter_eq_nil_iff]
      intro b hb hd
      exact h (List.mem_map.mpr ⟨b, hb, of_decide_eq_true hd⟩)
    rw [e]
    exact Nat.zero_le _
/-- some letter makes the name new -/
theorem some_free (found : List (List Nat)) (hf : found.length ≤ 20) (t : List Nat) : ∃ d ∈ zLetters, (d :: t) ∉ found ∧ (d :: t) ∉ zBarred := by
  by_cases h : ∃ d ∈ zLetters, (d :: t) ∉ found ∧ (d :: t) ∉ zBarred
  · exact h
  · exfalso
    have sub : zLetters.map (fun d => d :: t) ⊆ found ++ zBarred.filter (fun b => decide (b.tail = t)) := by
      intro x hx
      obtain ⟨d, hd, rfl⟩ := List.mem_map.mp hx
      rw [List.mem_append, List.mem_filter]
      by_cases h1 : (d :: t) ∈ found
      · exact .inl h1
      · by_cases h2 : (d :: t) ∈ zBarred
        · exact .inr ⟨h2, decide_eq_true rfl⟩
        · exact absurd ⟨d, hd, h1, h2⟩ h
    have nd : (zLetters.map (fun d => d :: t)).Nodup := by
      unfold List.Nodup
      rw [List.pairwise_map]
      exact List.Pairwise.imp (fun h e => h (List.cons.inj e).1) letters_nodup
    have l := List.Nodup.length_le_of_subset nd sub
    rw [List.length_map, List.length_append] at l
    have := barred_few t
    have h26 : zLetters.length = 26 := by decide +kernel
    omega
theorem comes_free (found : List (List Nat)) (hf : found.length ≤ 20) {z : List Nat} (hz : nameOk z = true) : ∃ m, shiftN m z ∉ found ∧ shiftN m z ∉ zBarred := by
  obtain ⟨ne, _, hc⟩ := nameOk_iff.mp hz
  cases z with
  | nil => exact absurd rfl ne
  | cons c t =>
    obtain ⟨d, hd, h1, h2⟩ := some_free found hf t
    obtain ⟨m, _, e⟩ := nx_all c (mem_letters (hc c (List.mem_cons_self ..))) d hd
    refine ⟨m, ?_⟩
    rw [shiftN_cons, e]
    exact ⟨h1, h2⟩
theorem nx_ok : ∀ c ∈ zLetters, nx c ∈ zLetters := by decide +kernel
theorem shift_ok {z : List Nat} (hz : nameOk z = true) : nameOk (shift z) = true := by
  obtain ⟨ne, hl, hc⟩ := nameOk_iff.mp hz
  cases z with
  | nil => exact absurd rfl ne
  | cons c t =>
    refine nameOk_iff.mpr ⟨List.cons_ne_nil _ _, hl, fun x hx => ?_⟩
    rcases List.mem_cons.mp hx with e | hx
    · rw [e]
      exact letters_mem (nx_ok c (mem_letters (hc c (List.mem_cons_self ..))))
    · exact hc x (List.mem_cons_of_mem _ hx)
/-! ### in, over texts -/
theorem eqV_str (x y : List Nat) : eqV (.str (S x)) (.str (S y)) = decide (x = y) := S_beq_eq
theorem inV_strs (z : List Nat) : ∀ zs : List (List Nat), inV (.str (S z)) (strV zs) = decide (z ∈ zs)
  | [] => by simp [inV]
  | y :: ys => by
    show (eqV (.str (S y)) (.str (S z)) || inV (.str (S z)) (strV ys)) = decide (z ∈ y :: ys)
    rw [eqV_str, inV_strs z ys]
    by_cases h : y = z
    · simp [h]
    · by_cases h2 : z ∈ ys
      · simp [h2]
      · have h3 : ¬ z = y := fun e => h e.symm
        simp [h, h2, h3]
theorem strV_snoc (zs : List (List Nat)) (x : List Nat) : strV zs ++ [V.str (S x)] = strV (zs ++ [x]) := by
  show _ = (zs ++ [x]).map fun z => V.str (S z)
  rw [List.map_append] <;> rfl
theorem flat_strs : ∀ zs : List (List Nat), (strV zs).all flatV = true
  | [] => rfl
  | z :: zs => by
    show (flatV (.str (S z)) && (strV zs).all flatV) = true
    rw [flat_strs zs]
    rfl
section
variable {K : PySem.W.Frag} {H : Hp} {Q : VK} {p : Addr} {z : List Nat} {zs : List (List Nat)}
theorem in_useL (h : SqL K H p (strV zs)) (q : Q (.bl (decide (z ∈ zs))) H) : rIn K false (.str (S z)) (.ref p) H Q := by
  refine ⟨p, _, rfl, .inl h, rfl, flat_strs zs, ?_⟩
  rw [inV_strs]
  exact q
theorem in_useT (h : SqT K H p (strV zs)) (q : Q (.bl (decide (z ∈ zs))) H) : rIn K false (.str (S z)) (.ref p) H Q := by
  refine ⟨p, _, rfl, .inr h, rfl, flat_strs zs, ?_⟩
  rw [inV_strs]
  exact q
theorem or2 {t u : TT} {σ : L2.St} {R : Bool → Hp → Prop} {a b : Bool} (ht : ∀ R' : Bool → Hp → Prop, R' a H → t σ H R') (hu : ∀ R' : Bool → Hp → Prop, R' b H → u σ H R') (q : R (a || b) H) : tOr t u σ H R := by
  refine ht _ ?_
  cases a with
  | true => exact iteT q
  | false => exact iteF (hu _ q)
end
theorem takesF {X : Cx} : Takes X (fun _ _ _ _ => False) := fun u s' ⟨a, B, sI, pins, σ, H, cls, d, e, I, nb, up, sky, na, os, ag, w⟩ => w.elim
theorem index_letters : ∀ c ∈ zLetters, Txt.index0 (Str.ofString "abcdefghijklmnopqrstuvwxyza") (S [c]) = some (c - 97) := by decide +kernel
theorem letters_next : ∀ c ∈ zLetters, (Str.ofString "abcdefghijklmnopqrstuvwxyza").cps.toList[c - 97 + 1]? = some (nx c) := by decide +kernel
section
open C8 (Cal Met Mak Def cal0 met0 mak0 pe_c pe_mk pe_mt pe_mt0 fnBody fnScope fnArgs fnScope_by pe_gc pss_cut)
variable {P : Program} {w : World} {K : PySem.W.Frag} {mg : Str → Option Value} {base : Heap} {A : Ad}
/-! ### _law_names -/
abbrev sNames : Stmt := top 45
abbrev nNames : List Str := ["_law_deck_here", "_law_many", "_law_letters", "_law_barred", "_law_found", "_law_k", "_law_name_here"]
theorem scNames : FnScope nNames ["_law_deck_here", "_law_many"] (fnScope sNames) := fnScope_by (by decide +kernel)
def spNames : Sp := fun vs H Q _ => ∃ (p : Addr) (n : Nat) (c : Nat), vs = [.ref p, .int n] ∧ n ≤ 15 ∧ Deck H p c ∧ c < 900000000 ∧ ∀ q zs H', Keep p H H' → H q = none → Deck H' p (c + 150) → zs.length = n → (∀ z ∈ zs, nameOk z = true) → H' q = some (.lst (strV zs)) → Q (.ref q) H'
theorem ok_names (T : Tx K mg A) (c_tongue : Cal P w K mg base 1 "_law_tongue" spTongue []) (c_name : Cal P w K mg base 2 "_law_name" spName []) (D : Dfn K mg "_law_names" sNames) : Cal P w K mg base 3 "_law_names" spNames [] := by
  refine cal_of D scNames (fun _ _ _ _ _ _ us hl => match us, hl with | [_, _], _ => rfl) (fun vs H Q E h => ?_) (fun f cdv A outer s H vs Q E hr h => ?_)
  · obtain ⟨p, n, c, rfl, _⟩ := h
    rfl
  obtain ⟨p, n, c, rfl, n15, dk, c1, q⟩ := h
  refine ⟨_, (pss_cons
    (ps_set (i := 2) scNames.nd rfl (Or.inl rfl) pe_str)
    (pss_cons
    (ps_set (i := 3) scNames.nd rfl (Or.inl rfl) (pe_op op_cat (pe_c0 c_tongue hr (by decide) (by rfl)) (pe_lst (pa_cons pe_str (pa_cons pe_str (pa_cons pe_str (pa_cons pe_str (pa_cons pe_str pa_nil))))))))
    (pss_cons
    (ps_set (i := 4) scNames.nd rfl (Or.inl rfl) (pe_lst pa_nil))
    (pss_cons
    (ps_for PassesOwn.never rfl (pi_range1 rfl T.range_ (pa_cons (pv 1) pa_nil)) (pg_name (i := 5) scNames.nd rfl (Or.inl rfl)) (pss_cons
    (ps_set (i := 6) scNames.nd rfl (Or.inl rfl) (pe_c c_name hr (by decide) (by rfl) (pa_cons (pv 0) pa_nil)))
    (pss_cons
    (ps_while PassesOwn.never (PW.pt (pw_or (pt_cmpR op_in_seq (pv 6) (pv 4) (by rfl)) (pw_or1 (pt_cmpR op_in_seq (pv 6) (pv 3) (by rfl))))) (pss_one
    (ps_set (i := 6) scNames.nd rfl (Or.inl rfl) (pe_op op_add_str (pe_ix ix_str (pv 2) (pe_op op_add pe_int (pe_bmS PySem.F.plainAttrs_str PySem.F.slot_str_index PySem.F.type_str_index (mt_indexX rfl takesF) (pv 2) (pa_cons (pe_ix ix_str (pv 6) pe_int (fun _ _ => rfl)) pa_nil))) (fun _ _ => rfl)) (pe_slice C8.sl_txt (pv 6) (po_some pe_int) po_none)))))
    (pss_one
    (ps_expr (pe_bm PySem.F.plainAttrs_list PySem.F.slot_list_append PySem.F.type_list_append mt_append (pv 4) (pa_cons (pv 6) pa_nil)))))))
    (pss_one
    (ps_ret (pv 4))))))), ?_⟩
  refine ⟨rfl, fun t H1 nt s1 ht => ⟨sz_small (show 5 ≤ 16000000 by decide), fun u nu => ?_⟩⟩
  refine ⟨t, u, strV zTongue, _, rfl, rfl, same_new nu _ _ ht, upd_same, by decide +kernel, fun b nb => ⟨Nat.zero_le _, fun F nF => ?_⟩⟩
  have s2 : Same H (upd (upd H1 u (.lst [.str "holds", .str "broken", .str "yes", .str "no", .str "ok"])) b (.lst (strV zTongue ++ [.str "holds", .str "broken", .str "yes", .str "no", .str "ok"]))) := s1.trans ((same_new nu).trans (same_new nb))
  have hb : (upd (upd H1 u (.lst [.str "holds", .str "broken", .str "yes", .str "no", .str "ok"])) b (.lst (strV zTongue ++ [.str "holds", .str "broken", .str "yes", .str "no", .str "ok"]))) b = some (.lst (strV zBarred)) := by
    rw [upd_same]
    exact congrArg (fun x => some (HO.lst x)) (by decide +kernel)
  generalize (upd (upd H1 u (.lst [.str "holds", .str "broken", .str "yes", .str "no", .str "ok"])) b (.lst (strV zTongue ++ [.str "holds", .str "broken", .str "yes", .str "no", .str "ok"]))) = H2 at s2 hb nF
  have nFH : H F = none := s2.free nF
  have nFp : F ≠ p := dk.ne nFH
  have nbp : b ≠ p := by
    intro e
    obtain ⟨x, y, m, h0, _⟩ := dk.same s2
    rw [← e, hb] at h0
    have e2 := congrArg (fun l : List V => l.length) (HO.lst.inj (Option.some.inj h0))
    exact absurd e2 (by show ¬ ((strV zBarred).length = 3); decide +kernel)
  have nbF : b ≠ F := ne_of_none hb nF
  have nFb : F ≠ b := Ne.symm nbF
  refine ⟨_, rfl, _, rfl, by omega, by omega, for_range (lo := 0) (n := ((n : Nat) : Int).toNat) (fun i σ H' => ∃ (zs : List (List Nat)) (k y : Option V), σ = [some (.ref p), some (.int n), some (.str "abcdefghijklmnopqrstuvwxyza"), some (.ref b), some (.ref F), k, y] ∧ zs.length = i ∧ (∀ z ∈ zs, nameOk z = true) ∧ Keep p H H' ∧ Deck H' p (c + 10 * i) ∧ H' b = some (.lst (strV zBarred)) ∧ H' F = some (.lst (strV zs)))
    ⟨[], _, _, rfl, rfl, (fun _ h => nomatch h), (Keep.of s2).updN nFH, (dk.same s2).new nF, by rw [upd_ne nbF]; exact hb, upd_same⟩ ?_ ?_⟩
  · rintro i σ H3 hi ⟨zs, k, y, rfl, el, hz, k3, d3, hb3, hF3⟩
    have hi15 : i < 15 := by omega
    refine ⟨_, rfl, p, c + 10 * i, rfl, d3, by omega, fun z H4 k4 d4 hz4 => ?_⟩
    have hb4 := k4 b _ nbp hb3
    have hF4 := k4 F _ nFp hF3
    obtain ⟨m0, f1, f2⟩ := comes_free zs (by omega) hz4
    refine ⟨fun m σ' H' => ∃ x, σ' = [some (.ref p), some (.int n), some (.str "abcdefghijklmnopqrstuvwxyza"), some (.ref b), some (.ref F), some (.int (0 + (i : Int))), some (.str (S x))] ∧ H4 = H' ∧ nameOk x = true ∧ shiftN m x ∉ zs ∧ shiftN m x ∉ zBarred, ⟨m0, z, rfl, rfl, hz4, f1, f2⟩, ?_⟩
    rintro m σ' H' ⟨x, rfl, rfl, hx, g1, g2⟩
    refine or2 (a := decide (x ∈ zs)) (b := decide (x ∈ zBarred)) (fun R' q' => ⟨_, rfl, _, rfl, in_useL (SqL.of hF4) ⟨_, rfl, q'⟩⟩) (fun R' q' => ⟨_, rfl, _, rfl, in_useL (SqL.of hb4) ⟨_, rfl, q'⟩⟩) ?_
    refine ite2 (fun d => ?_) (fun d => ?_)
    · have d' : x ∈ zs ∨ x ∈ zBarred := by
        rw [Bool.or_eq_true, decide_eq_true_eq, decide_eq_true_eq] at d
        exact d
      cases m with
      | zero => exact absurd d' (fun e => e.elim g1 g2)
      | succ m =>
        refine ⟨fun σ' H' => ∃ x, σ' = [some (.ref p), some (.int n), some (.str "abcdefghijklmnopqrstuvwxyza"), some (.ref b), some (.ref F), some (.int (0 + (i : Int))), some (.str (S x))] ∧ H4 = H' ∧ nameOk x = true ∧ shiftN m x ∉ zs ∧ shiftN m x ∉ zBarred, fun σ' H' hN => ⟨m, by omega, hN⟩, ?_⟩
        have hsh := shift_ok hx
        obtain ⟨ne, hl, hc⟩ := nameOk_iff.mp hx
        cases x with
        | nil => exact absurd rfl ne
        | cons a t =>
          have ha := mem_letters (hc a (List.mem_cons_self ..))
          have hl' : t.length + 1 ≤ 8 := hl
          refine ⟨_, rfl, _, rfl, ?_, _, rfl, S (a :: t), 0, a, rfl, rfl, by rw [S_len]; exact sz_small (by omega), at_of' (j := 0) rfl rfl, _, _, rfl, rfl, fun k hk => ?_, fun hk => ?_⟩
          · rfl
          · rw [index_letters a ha] at hk
            have ek : k = a - 97 := (Option.some.inj hk).symm
            subst ek
            refine ⟨_, _, rfl, rfl, _, _, nx a, rfl, rfl, by decide +kernel, ?_, ?_⟩
            · rw [show (1 : Int) + ((a - 97 : Nat) : Int) = ((a - 97 + 1 : Nat) : Int) by omega]
              exact atI_nat (letters_next a ha)
            · refine ⟨_, rfl, 1, rfl, S (a :: t), rfl, by rw [S_len]; exact sz_small (by omega), ?_⟩
              rw [slice_from (by decide)]
              refine ⟨_, _, rfl, rfl, ?_, shift (a :: t), ?_, rfl, hsh, g1, g2⟩
              · show (S [nx a]).length + (S t).length ≤ _
                rw [S_len, S_len]
                exact sz_small (by show 1 + t.length ≤ _; omega)
              · have e : (⟨#[nx a]⟩ : Str) ++ S (List.drop (1 : Int).toNat (a :: t)) = S (shift (a :: t)) := S_cat [nx a] t
                rw [e]
                rfl
          · rw [index_letters a ha] at hk
            cases hk
    · refine ⟨_, rfl, .inl ⟨rfl, _, SqL.of hF4⟩, _, rfl, F, _, _, rfl, rfl, hF4, sz_lt (by rw [List.length_map]; omega), ?_⟩
      refine ⟨zs ++ [x], _, _, rfl, by rw [List.length_append, el] <;> rfl, fun w hw => ?_, (k3.trans k4).updN nFH, (d4.mono (by omega)).updL nFp, ?_, ?_⟩
      · rcases List.mem_append.mp hw with hw | hw
        · exact hz w hw
        · rw [List.mem_singleton.mp hw]
          exact hx
      · rw [upd_ne nbF]
        exact hb4
      · rw [upd_same, strV_snoc]
  · rintro σ H3 ⟨zs, k, y, rfl, el, hz, k3, d3, hb3, hF3⟩
    exact ⟨_, rfl, q F zs H3 k3 nFH (d3.mono (by omega)) (by omega) hz hF3⟩
end
end Ep

/-! 6. The law's world. -/
namespace Ep
open PySem PySem.Spec PyProof.Rows L2 SX
open C8 (Cal Met Mak Def cal0 met0 mak0 pe_c pe_mk pe_mt pe_mt0 fnBody fnScope fnArgs fnScope_by pe_gc pss_cut)
/-- a draw, by its reading -/
theorem draw_use {ta : TA} {σ : L2.St} {H : Hp} {Q : VK} {E : XK} {p : Addr} {n : Int} {c : Nat} (ha : ∀ R : List V → Hp → Prop, R [.ref p, .int n] H → ta σ H R) (dk : Deck H p c) (h0 : 0 < n) (h1 : n < 1073741824) (hc : c < 1073741824)
    (q : ∀ (r : Int) H', Keep p H H' → Deck H' p (c + 1) → 0 ≤ r → r < n → Q (.int r) H') : tCall spDraw [] E ta σ H Q := ha _ ⟨p, n, c, rfl, dk, h0, h1, hc, q⟩
theorem pickN {ns : List Nat} {r : Int} (h0 : 0 ≤ r) (h1 : r < (ns.length : Int)) : ∃ x, x ∈ ns ∧ atI (ns.map fun n : Nat => V.int (n : Int)) r = some (.int (x : Int)) := by
  obtain ⟨v, hv, e⟩ := pick (xs := ns.map fun n : Nat => V.int (n : Int)) h0 (by rw [List.length_map]; exact h1)
  obtain ⟨z, hz, rfl⟩ := List.mem_map.mp hv
  exact ⟨z, hz, e⟩
theorem pickI {ns : List Int} {r : Int} (h0 : 0 ≤ r) (h1 : r < (ns.length : Int)) : ∃ x, x ∈ ns ∧ atI (ns.map V.int) r = some (.int x) := by
  obtain ⟨v, hv, e⟩ := pick (xs := ns.map V.int) h0 (by rw [List.length_map]; exact h1)
  obtain ⟨z, hz, rfl⟩ := List.mem_map.mp hv
  exact ⟨z, hz, e⟩
/-! ### parts of lists -/
def cutL {α : Type} (xs : List α) (lo hi : Option Int) : List α := (xs.drop (HT.sIx xs.length 0 lo)).take (HT.sIx xs.length xs.length hi - HT.sIx xs.length 0 lo)
theorem cutV_strs (zs : List (List Nat)) (lo hi : Option Int) : cutV (strV zs) lo hi = strV (cutL zs lo hi) := by
  unfold cutV cutL
  rw [List.length_map, ← List.map_drop, ← List.map_take]
theorem cutL_mem {α : Type} {xs : List α} {lo hi : Option Int} {x : α} (h : x ∈ cutL xs lo hi) : x ∈ xs := List.mem_of_mem_drop (List.mem_of_mem_take h)
theorem cutL_len {α : Type} (xs : List α) (lo hi : Option Int) : (cutL xs lo hi).length ≤ xs.length := by
  unfold cutL
  rw [List.length_take, List.length_drop]
  omega
theorem cutL_to {α : Type} (xs : List α) (k : Nat) : cutL xs none (some (k : Int)) = xs.take k := by
  unfold cutL
  rw [HT.sIx_nat, HT.sIx_none, List.drop_zero, Nat.sub_zero]
  by_cases h : k ≤ xs.length
  · rw [Nat.min_eq_left h]
  · rw [Nat.min_eq_right (by omega), List.take_of_length_le (Nat.le_refl _), List.take_of_length_le (by omega)]
theorem cutL_from {α : Type} (xs : List α) (k : Nat) : cutL xs (some (k : Int)) none = xs.drop k := by
  unfold cutL
  rw [HT.sIx_nat, HT.sIx_none]
  by_cases h : k ≤ xs.length
  · rw [Nat.min_eq_left h]
    exact List.take_of_length_le (by rw [List.length_drop]; omega)
  · rw [Nat.min_eq_right (by omega), List.drop_eq_nil_of_le (by omega), List.drop_eq_nil_of_le (by omega), List.take_nil]
theorem map_S_of (ys : List Str) : ys.map V.str = strV (ys.map TL.tl) := by
  show _ = (ys.map TL.tl).map fun z => V.str (S z)
  rw [List.map_map]
  refine List.map_congr_left fun y _ => ?_
  exact congrArg V.str (S_tl y).symm
theorem strV_S (zs : List (List Nat)) : (zs.map S).map V.str = strV zs := by
  rw [List.map_map] <;> rfl
theorem noL_strsAll : ∀ zss : List (List (List Nat)), noLAll (zss.map strsD) = true
  | [] => by simp [noLAll]
  | z :: zs => by
    have := noL_strsAll zs
    simp [noLAll, noL_strsD, this]
/-- a world's names -/
structure WOk (C : Cast) (sp : List (List Nat)) : Prop where
  rows : ∀ z ∈ C.rows, nameOk z = true
  places : ∀ z ∈ C.places, nameOk z = true
  numbers : ∀ z ∈ C.numbers, nameOk z = true
  spare : ∀ z ∈ sp, nameOk z = true
  r1 : 1 ≤ C.rows.length
  rl : C.rows.length ≤ 15
  pl : C.places.length ≤ 15
  nl : C.numbers.length ≤ 15
  s2 : 2 ≤ sp.length
  sl : sp.length ≤ 15
section
variable {P : Program} {w : World} {K : PySem.W.Frag} {mg : Str → Option Value} {base : Heap} {A : Ad}
abbrev sWorld : Stmt := top 46
abbrev nWorld : List Str := ["_law_deck_here", "_law_great", "_law_rows", "_law_places", "_law_numbers", "_law_names_here", "_law_some", "_law_one"]
theorem scWorld : FnScope nWorld ["_law_deck_here"] (fnScope sWorld) := fnScope_by (by decide +kernel)
def spWorld (K : PySem.W.Frag) : Sp := fun vs H Q _ => ∃ (p : Addr) (c : Nat), vs = [.ref p] ∧ Deck H p c ∧ c < 800000000 ∧ ∀ C sp v H', Keep p H H' → Deck H' p (c + 160) → WOk C sp → Dp K H' v (worldD C sp) → Q v H'
theorem ok_world (T : Tx K mg A) (c_draw : Cal P w K mg base 1 "_law_draw" spDraw []) (c_names : Cal P w K mg base 3 "_law_names" spNames []) (D : Dfn K mg "_law_world" sWorld) : Cal P w K mg base 4 "_law_world" (spWorld K) [] := by
  refine cal_of D scWorld (fun _ _ _ _ _ _ us hl => match us, hl with | [_], _ => rfl) (fun vs H Q E h => ?_) (fun f cdv A outer s H vs Q E hr h => ?_)
  · obtain ⟨p, c, rfl, _⟩ := h
    rfl
  obtain ⟨p, c, rfl, dk, c1, q⟩ := h
  refine ⟨_, (pss_cons
    (ps_set (i := 1) scWorld.nd rfl (Or.inl rfl) (pe_callTy call_int1 (by rfl) T.int_ (by decide +kernel) (pa_cons (pe_cmpR op_eq (pe_c c_draw hr (by decide) (by rfl) (pa_cons (pv 0) (pa_cons pe_int pa_nil))) pe_int (nomark _)) pa_nil)))
    (pss_cons
    (ps_set (i := 2) scWorld.nd rfl (Or.inl rfl) (pe_op op_add (pe_ix ix_list (pe_lst (pa_cons pe_int (pa_cons pe_int (pa_cons pe_int (pa_cons pe_int pa_nil))))) (pe_c c_draw hr (by decide) (by rfl) (pa_cons (pv 0) (pa_cons pe_int pa_nil))) (fun _ _ => rfl)) (pv 1)))
    (pss_cons
    (ps_set (i := 3) scWorld.nd rfl (Or.inl rfl) (pe_op op_add (pe_ix ix_list (pe_lst (pa_cons pe_int (pa_cons pe_int (pa_cons pe_int (pa_cons pe_int pa_nil))))) (pe_c c_draw hr (by decide) (by rfl) (pa_cons (pv 0) (pa_cons pe_int pa_nil))) (fun _ _ => rfl)) (pe_op op_mul pe_int (pv 1))))
    (pss_cons
    (ps_set (i := 4) scWorld.nd rfl (Or.inl rfl) (pe_op op_add (pe_ix ix_list (pe_lst (pa_cons pe_int (pa_cons pe_int (pa_cons pe_int (pa_cons pe_int pa_nil))))) (pe_c c_draw hr (by decide) (by rfl) (pa_cons (pv 0) (pa_cons pe_int pa_nil))) (fun _ _ => rfl)) (pe_op op_mul pe_int (pv 1))))
    (pss_cons
    (ps_set (i := 5) scWorld.nd rfl (Or.inl rfl) (pe_c c_names hr (by decide) (by rfl) (pa_cons (pv 0) (pa_cons (pe_op op_add (pe_op op_add (pe_op op_add (pe_op op_add (pv 2) (pv 3)) (pv 4)) pe_int) (pe_op op_mul pe_int (pv 1))) pa_nil))))
    (pss_cons
    (ps_set (i := 6) scWorld.nd rfl (Or.inl rfl) (pe_lst (pa_cons (pe_slice sl_list (pv 5) po_none (po_some (pv 2))) (pa_cons (pe_slice sl_list (pv 5) (po_some (pv 2)) (po_some (pe_op op_add (pv 2) (pv 3)))) (pa_cons (pe_slice sl_list (pv 5) (po_some (pe_op op_add (pv 2) (pv 3))) (po_some (pe_op op_add (pe_op op_add (pv 2) (pv 3)) (pv 4)))) pa_nil)))))
    (pss_one
    (ps_ret (pe_tup (pa_cons (pe_callTy call_tuple_of (by rfl) T.tuple_ (by decide +kernel) (pa_cons (pe_lc (own := [("_law_one", 7)]) (g := gName 7) (tt := tYes) rfl scWorld.nd (pi_list (pv 6)) (blkOk_by (own := [("_law_one", 7)]) (N := nWorld) (sc := fnScope sWorld) (by decide +kernel)) (fun _ _ _ _ _ => pg_name (i := 7) scWorld.nd rfl (Or.inl rfl)) (fun _ _ _ _ _ => pts_nil) (fun _ _ _ _ _ => (pe_callTy (call_tuple_ofK (K := K)) (by rfl) T.tuple_ (by decide +kernel) (pa_cons (pe_callB (cr_sortedSK (K := K)) (by rfl) T.sorted_ (by decide +kernel) (pa_cons (pv 7) pa_nil)) pa_nil)))) pa_nil)) (pa_cons (pe_callTy call_tuple_of (by rfl) T.tuple_ (by decide +kernel) (pa_cons (pe_slice sl_list (pv 5) (po_some (pe_op op_add (pe_op op_add (pv 2) (pv 3)) (pv 4))) po_none) pa_nil)) pa_nil))))))))))), ?_⟩
  -- great
  refine draw_use (p := p) (n := 8) (fun R h => ⟨_, rfl, h⟩) dk (by decide) (by decide) (by omega) fun r H1 k1 d1 r0 r1 => ⟨rfl, .inr ⟨_, rfl, ?_⟩⟩
  obtain ⟨g, eg, hg⟩ : ∃ g : Nat, (if decide (V.int r = V.int 5) = true then (1 : Int) else 0) = (g : Int) ∧ g ≤ 1 := by
    by_cases e : decide (V.int r = V.int 5) = true
    · exact ⟨1, by rw [if_pos e] <;> rfl, Nat.le_refl _⟩
    · exact ⟨0, by rw [if_neg e] <;> rfl, Nat.zero_le _⟩
  rw [eg]
  -- rows
  refine ⟨sz_small (show 4 ≤ 16000000 by decide), fun l2 nl2 => ?_⟩
  refine ⟨_, rfl, p, 4, _, rfl, d1.new nl2, by decide, by decide, by omega, fun r2 H2 k2' d2 r0 r1 => ?_⟩
  have k2 := (Keep.of (p := p) (same_new (o := .lst [.int 1, .int 1, .int 1, .int 2]) nl2)).trans k2'
  obtain ⟨x2, m2, e2'⟩ := pickN (ns := [1, 1, 1, 2]) r0 r1
  have hx2 : 1 ≤ x2 ∧ x2 ≤ 2 := by
    have all : ∀ x ∈ ([1, 1, 1, 2] : List Nat), 1 ≤ x ∧ x ≤ 2 := by decide
    exact all _ m2
  refine ⟨l2, _, _, _, rfl, rfl, SqL.of (k2' l2 _ (d1.ne nl2) upd_same), e2', ?_⟩
  refine ⟨_, rfl, _, _, rfl, rfl, ?_⟩
  -- places
  refine ⟨sz_small (show 4 ≤ 16000000 by decide), fun l3 nl3 => ?_⟩
  refine ⟨_, rfl, p, 4, _, rfl, d2.new nl3, by decide, by decide, by omega, fun r3 H3 k3' d3 r0 r1 => ?_⟩
  have k3 := (Keep.of (p := p) (same_new (o := .lst [.int 0, .int 1, .int 2, .int 1]) nl3)).trans k3'
  obtain ⟨x3, m3, e3'⟩ := pickN (ns := [0, 1, 2, 1]) r0 r1
  have hx3 : x3 ≤ 2 := by
    have all : ∀ x ∈ ([0, 1, 2, 1] : List Nat), x ≤ 2 := by decide
    exact all _ m3
  refine ⟨l3, _, _, _, rfl, rfl, SqL.of (k3' l3 _ (d2.ne nl3) upd_same), e3', ?_⟩
  refine ⟨_, rfl, _, _, rfl, rfl, .inl ⟨by decide, by decide⟩, _, _, rfl, rfl, ?_⟩
  -- numbers
  refine ⟨sz_small (show 4 ≤ 16000000 by decide), fun l4 nl4 => ?_⟩
  refine ⟨_, rfl, p, 4, _, rfl, d3.new nl4, by decide, by decide, by omega, fun r4 H4 k4' d4 r0 r1 => ?_⟩
  have k4 := (Keep.of (p := p) (same_new (o := .lst [.int 0, .int 1, .int 2, .int 0]) nl4)).trans k4'
  obtain ⟨x4, m4, e4'⟩ := pickN (ns := [0, 1, 2, 0]) r0 r1
  have hx4 : x4 ≤ 2 := by
    have all : ∀ x ∈ ([0, 1, 2, 0] : List Nat), x ≤ 2 := by decide
    exact all _ m4
  refine ⟨l4, _, _, _, rfl, rfl, SqL.of (k4' l4 _ (d3.ne nl4) upd_same), e4', ?_⟩
  refine ⟨_, rfl, _, _, rfl, rfl, .inl ⟨by decide, by decide⟩, _, _, rfl, rfl, ?_⟩
  -- names
  obtain ⟨a2, e2, b2, b2'⟩ : ∃ a : Nat, (x2 : Int) + (g : Int) = (a : Int) ∧ 1 ≤ a ∧ a ≤ 3 := ⟨x2 + g, by omega, by omega, by omega⟩
  obtain ⟨a3, e3, b3⟩ : ∃ a : Nat, (x3 : Int) + 2 * (g : Int) = (a : Int) ∧ a ≤ 4 := ⟨x3 + 2 * g, by omega, by omega⟩
  obtain ⟨a4, e4, b4⟩ : ∃ a : Nat, (x4 : Int) + 2 * (g : Int) = (a : Int) ∧ a ≤ 4 := ⟨x4 + 2 * g, by omega, by omega⟩
  obtain ⟨a5, e5, b5, b5'⟩ : ∃ a : Nat, (x2 : Int) + (g : Int) + ((x3 : Int) + 2 * (g : Int)) + ((x4 : Int) + 2 * (g : Int)) + 2 + 2 * (g : Int) = (a : Int) ∧ a2 + a3 + a4 + 2 ≤ a ∧ a ≤ 15 := ⟨a2 + a3 + a4 + 2 + 2 * g, by omega, by omega, by omega⟩
  have e23 : (x2 : Int) + (g : Int) + ((x3 : Int) + 2 * (g : Int)) = ((a2 + a3 : Nat) : Int) := by omega
  have e24 : (x2 : Int) + (g : Int) + ((x3 : Int) + 2 * (g : Int)) + ((x4 : Int) + 2 * (g : Int)) = ((a2 + a3 + a4 : Nat) : Int) := by omega
  refine ⟨_, rfl, _, rfl, _, rfl, _, _, rfl, rfl, _, rfl, _, _, rfl, rfl, _, _, rfl, rfl, _, rfl, _, _, rfl, rfl, .inl ⟨by decide, by decide⟩, _, _, rfl, rfl, ?_⟩
  refine ⟨p, a5, _, congrArg (fun z => [V.ref p, V.int z]) e5, b5', d4, by omega, fun L zs H5 k5 nL d5 hlen hz hL => ?_⟩
  have KK : Keep p H H5 := (((k1.trans k2).trans k3).trans k4).trans k5
  -- the three lists
  refine ⟨_, rfl, _, rfl, _, congrArg V.int e2, L, strV zs, rfl, SqL.of hL, ?_⟩
  rw [cutV_strs]
  intro s1 n1
  have S1 := same_new (o := .lst (strV (cutL zs none (some (a2 : Int))))) n1
  refine ⟨_, rfl, _, rfl, _, congrArg V.int e2, _, rfl, _, rfl, _, _, rfl, rfl, _, congrArg V.int e23, L, strV zs, rfl, SqL.of (S1 _ _ hL), ?_⟩
  rw [cutV_strs]
  intro s2 n2
  have S2 := same_new (o := .lst (strV (cutL zs (some (a2 : Int)) (some ((a2 + a3 : Nat) : Int))))) n2
  refine ⟨_, rfl, _, rfl, _, rfl, _, _, rfl, rfl, _, congrArg V.int e23, _, rfl, _, rfl, _, _, rfl, rfl, _, rfl, _, _, rfl, rfl, _, congrArg V.int e24, L, strV zs, rfl, SqL.of (S2 _ _ (S1 _ _ hL)), ?_⟩
  rw [cutV_strs]
  refine fun s3 n3 => ⟨sz_small (show 3 ≤ 16000000 by decide), fun M nM => ?_⟩
  have S3 := same_new (o := .lst (strV (cutL zs (some ((a2 + a3 : Nat) : Int)) (some ((a2 + a3 + a4 : Nat) : Int))))) n3
  have S4 := same_new (o := .lst [V.ref s1, V.ref s2, V.ref s3]) nM
  have h1 := S4 s1 _ (S3 s1 _ (S2 s1 _ upd_same))
  have h2 := S4 s2 _ (S3 s2 _ upd_same)
  have h3 := S4 s3 _ upd_same
  have hM := upd_same (H := upd (upd (upd H5 s1 (.lst (strV (cutL zs none (some (a2 : Int)))))) s2 (.lst (strV (cutL zs (some (a2 : Int)) (some ((a2 + a3 : Nat) : Int)))))) s3 (.lst (strV (cutL zs (some ((a2 + a3 : Nat) : Int)) (some ((a2 + a3 + a4 : Nat) : Int)))))) (a := M) (o := .lst [V.ref s1, V.ref s2, V.ref s3])
  have S6 := S1.trans (S2.trans (S3.trans S4))
  generalize (upd (upd (upd (upd H5 s1 (.lst (strV (cutL zs none (some (a2 : Int)))))) s2 (.lst (strV (cutL zs (some (a2 : Int)) (some ((a2 + a3 : Nat) : Int)))))) s3 (.lst (strV (cutL zs (some ((a2 + a3 : Nat) : Int)) (some ((a2 + a3 + a4 : Nat) : Int)))))) M (.lst [V.ref s1, V.ref s2, V.ref s3])) = H6 at h1 h2 h3 hM S6
  generalize hz1 : cutL zs none (some (a2 : Int)) = z1 at h1
  generalize hz2 : cutL zs (some (a2 : Int)) (some ((a2 + a3 : Nat) : Int)) = z2 at h2
  generalize hz3 : cutL zs (some ((a2 + a3 : Nat) : Int)) (some ((a2 + a3 + a4 : Nat) : Int)) = z3 at h3
  have ok1 : (∀ z ∈ z1, nameOk z = true) ∧ z1.length ≤ 15 := by
    subst hz1
    exact ⟨fun z hh => hz z (cutL_mem hh), Nat.le_trans (cutL_len ..) (by omega)⟩
  have ok2 : (∀ z ∈ z2, nameOk z = true) ∧ z2.length ≤ 15 := by
    subst hz2
    exact ⟨fun z hh => hz z (cutL_mem hh), Nat.le_trans (cutL_len ..) (by omega)⟩
  have ok3 : (∀ z ∈ z3, nameOk z = true) ∧ z3.length ≤ 15 := by
    subst hz3
    exact ⟨fun z hh => hz z (cutL_mem hh), Nat.le_trans (cutL_len ..) (by omega)⟩
  have len1 : 1 ≤ z1.length := by
    rw [← hz1, cutL_to, List.length_take]
    omega
  have src : ∀ (i : Nat) (x : V), ([V.ref s1, V.ref s2, V.ref s3] : List V)[i]? = some x → ∃ s y, x = .ref s ∧ ([z1, z2, z3] : List (List (List Nat)))[i]? = some y ∧ ((∀ z ∈ y, nameOk z = true) ∧ y.length ≤ 15) ∧ H6 s = some (.lst (strV y)) := by
    intro i x hx
    match i, hx with
    | 0, hx => cases hx; exact ⟨s1, z1, rfl, rfl, ok1, h1⟩
    | 1, hx => cases hx; exact ⟨s2, z2, rfl, rfl, ok2, h2⟩
    | 2, hx => cases hx; exact ⟨s3, z3, rfl, rfl, ok3, h3⟩
    | (_ + 3), hx => cases hx
  refine ⟨_, rfl, M, rfl, ⟨_, SqL.of hM⟩, fun D nD => lc_list (K := K) (a := M) (xs := [V.ref s1, V.ref s2, V.ref s3])
    (fun i H' => ∃ (zss : List (List (List Nat))) (vs : List V), zss.length = i ∧ (∀ (j : Nat) (z : List (List Nat)), zss[j]? = some z → (∀ x ∈ z, nameOk x = true) ∧ ∃ y : List (List Nat), ([z1, z2, z3] : List (List (List Nat)))[j]? = some y ∧ z.length = y.length) ∧ Same H6 H' ∧ H' D = some (.lst vs) ∧ DpAll K H' vs (zss.map strsD))
    ⟨[], [], rfl, (fun j z hh => by cases hh), same_new nD, upd_same, .nil⟩ (fun i H' _ ⟨_, _, _, _, sm, _⟩ => SqL.of (sm _ _ hM)) ?_ ?_⟩
  · rintro i x H7 hx ⟨zss, vs, el, hj, sm, hD, da⟩
    obtain ⟨sa, y, rfl, hy, ⟨oy, ly⟩, hs⟩ := src i x hx
    have i3 : i < 3 := (List.getElem?_eq_some_iff.mp hx).1
    have hs7 : H7 sa = some (.lst ((y.map S).map V.str)) := by
      rw [strV_S]
      exact sm _ _ hs
    refine ⟨rfl, _, rfl, sa, y.map S, rfl, SqL.of hs7, by rw [List.length_map]; omega, fun ys u pm _ nu => ⟨u, _, rfl, .inl ⟨SqL.of upd_same, fun t nt => ?_⟩⟩⟩
    have Sx := (same_new (o := .lst (ys.map V.str)) nu).trans (same_new (o := .tup (ys.map V.str)) nt)
    refine ⟨vs, Sx _ _ hD, sz_lt ?_, zss ++ [ys.map TL.tl], vs ++ [.ref t], ?_, ?_, Same.updN (sm.trans Sx) nD, upd_same, ?_⟩
    · rw [DpAll.length da, List.length_map]
      omega
    · rw [List.length_append, el] <;> rfl
    · intro j z hh
      by_cases hji : j < zss.length
      · rw [List.getElem?_append_left hji] at hh
        exact hj j z hh
      · have hje : j = zss.length := by
          have := (List.getElem?_eq_some_iff.mp hh).1
          rw [List.length_append, List.length_singleton] at this
          omega
        subst hje
        rw [List.getElem?_append_right (Nat.le_refl _), Nat.sub_self] at hh
        have ez : ys.map TL.tl = z := Option.some.inj hh
        subst ez
        refine ⟨fun x hx => ?_, y, by rw [el]; exact hy, by rw [List.length_map, pm.length_eq, List.length_map]⟩
        obtain ⟨u, hu, rfl⟩ := List.mem_map.mp hx
        obtain ⟨v, hv, rfl⟩ := List.mem_map.mp (pm.mem_iff.mp hu)
        exact oy v hv
    · rw [List.map_append]
      refine DpAll.append (DpAll.tups ((Same.tups Sx).trans (Tups.updL (Sx _ _ hD))) _ (noL_strsAll zss) da) (.cons (dp_strs_mk ?_) .nil)
      show SqT K _ t (strV (ys.map TL.tl))
      rw [← map_S_of]
      refine SqT.of ?_
      rw [upd_ne (ne_of upd_same (Sx _ _ hD) (by intro z; cases z))]
      exact upd_same
  · rintro H7 ⟨zss, vs, el, hj, sm, hD, da⟩
    have S7 : Same H5 H7 := S6.trans sm
    refine ⟨D, _, rfl, .inl ⟨SqL.of hD, fun t nt => ?_⟩⟩
    have S8 := same_new (o := .tup vs) nt
    refine ⟨_, rfl, _, rfl, _, rfl, _, _, rfl, rfl, _, rfl, _, _, rfl, rfl, _, congrArg V.int e24, L, strV zs, rfl, SqL.of (S8 _ _ (S7 _ _ hL)), ?_⟩
    rw [cutV_strs]
    intro s5 n5
    have S9 := same_new (o := .lst (strV (cutL zs (some ((a2 + a3 + a4 : Nat) : Int)) none))) n5
    refine ⟨s5, _, rfl, .inl ⟨SqL.of upd_same, fun u nu => ⟨sz_small (show 2 ≤ 16000000 by decide), fun v nv => ?_⟩⟩⟩
    have S10 := same_new (o := .tup (strV (cutL zs (some ((a2 + a3 + a4 : Nat) : Int)) none))) nu
    have S11 := same_new (o := .tup [V.ref t, V.ref u]) nv
    have SS := S7.trans (S8.trans (S9.trans (S10.trans S11)))
    match zss, el with
    | [r, pl, nm], _ =>
    obtain ⟨o1, y1, ey1, l1⟩ := hj 0 r rfl
    obtain ⟨o2, y2, ey2, l2⟩ := hj 1 pl rfl
    obtain ⟨o3, y3, ey3, l3⟩ := hj 2 nm rfl
    cases ey1
    cases ey2
    cases ey3
    refine q ⟨r, pl, nm⟩ (cutL zs (some ((a2 + a3 + a4 : Nat) : Int)) none) _ _ (KK.trans (Keep.of SS)) ((d5.same SS).mono (by omega)) ⟨o1, o2, o3, fun z hh => hz z (cutL_mem hh), by show 1 ≤ r.length; omega, by show r.length ≤ 15; omega, by show pl.length ≤ 15; omega, by show nm.length ≤ 15; omega, ?_, Nat.le_trans (cutL_len ..) (by omega)⟩ ?_
    · rw [cutL_from, List.length_drop]
      omega
    · have ht := (S9.trans (S10.trans S11)) _ _ (upd_same (H := H7) (a := t) (o := .tup vs))
      refine .tup (SqT.of upd_same) (.cons (.tup (SqT.of ht) ?_) (.cons (dp_strs_mk (SqT.of (S11 _ _ upd_same))) .nil))
      exact DpAll.tups (Same.tups (S8.trans (S9.trans (S10.trans S11)))) _ (noL_strsAll [r, pl, nm]) da
end
end Ep

/-! 7. Sayings, plain: as data, as words; two are alike in words just where they are the same. -/
namespace Ep
open PySem PySem.Spec PyProof.Rows L2 SX
/-- a word's signs -/
def wd (s : String) : List Nat := (Str.ofString s).cps.toList
theorem S_wd (s : String) : S (wd s) = Str.ofString s := rfl
inductive Bs where
  | non
  | num (z : List Nat)
  | cell (r p : List Nat)
abbrev Sm := Bs × Int
inductive Cw where
  | most | less | same | unlike
inductive Pw where
  | ahead | here | next | nexts
def Cw.s : Cw → String
  | .most => "most" | .less => "less" | .same => "same" | .unlike => "unlike"
def Pw.s : Pw → String
  | .ahead => "ahead" | .here => "here" | .next => "next" | .nexts => "nexts"
def jw : Bool → String
  | true => "and" | false => "or"
inductive Say where
  | cmp (k : Cw) (a b : Sm)
  | pl (k : Pw) (p q : List Nat)
  | no (s : Say)
  | jn (k : Bool) (ss : List Say)
  | iff (s t : Say)
  | ea (x : List Nat) (s : Say)
  | pa (x y : List Nat) (s : Say)
def encB : Bs → PyData
  | .non => .none
  | .num z => DStr z
  | .cell r p => .tuple [DStr r, DStr p]
def encM (a : Sm) : PyData := .tuple [encB a.1, .int a.2]
mutual
def enc : Say → PyData
  | .cmp k a b => .tuple [DStr (wd k.s), encM a, encM b]
  | .pl k p q => .tuple [DStr (wd k.s), DStr p, DStr q]
  | .no s => .tuple [DStr (wd "not"), enc s]
  | .jn k ss => .tuple [DStr (wd (jw k)), .tuple (encAll ss)]
  | .iff s t => .tuple [DStr (wd "if"), enc s, enc t]
  | .ea x s => .tuple [DStr (wd "each"), DStr x, enc s]
  | .pa x y s => .tuple [DStr (wd "pairs"), DStr x, DStr y, enc s]
def encAll : List Say → List PyData
  | [] => []
  | s :: ss => enc s :: encAll ss
end
theorem encAll_map : ∀ ss : List Say, encAll ss = ss.map enc
  | [] => by simp [encAll]
  | s :: ss => by simp [encAll, encAll_map ss]
def bOk : Bs → Bool
  | .non => true
  | .num z => nameOk z
  | .cell r p => nameOk r && nameOk p
def mOk (a : Sm) : Bool := bOk a.1 && decide (a.2.natAbs < 10000000000)
mutual
def sOk : Say → Bool
  | .cmp _ a b => mOk a && mOk b
  | .pl _ p q => nameOk p && nameOk q
  | .no s => sOk s
  | .jn _ ss => decide (ss.length ≤ 4) && sOkAll ss
  | .iff s t => sOk s && sOk t
  | .ea x s => nameOk x && sOk s
  | .pa x y s => nameOk x && nameOk y && sOk s
def sOkAll : List Say → Bool
  | [] => true
  | s :: ss => sOk s && sOkAll ss
end
mutual
def dep : Say → Nat
  | .cmp _ _ _ => 1
  | .pl _ _ _ => 1
  | .no s => dep s + 1
  | .jn _ ss => depAll ss + 1
  | .iff s t => max (dep s) (dep t) + 1
  | .ea _ s => dep s + 1
  | .pa _ _ s => dep s + 1
def depAll : List Say → Nat
  | [] => 0
  | s :: ss => max (dep s) (depAll ss)
end
/-- at most three parts, at the top -/
def w3 : Say → Bool
  | .jn _ ss => decide (ss.length ≤ 3)
  | _ => true
theorem sOkAll_iff : ∀ {ss : List Say}, sOkAll ss = true ↔ ∀ s ∈ ss, sOk s = true
  | [] => by simp [sOkAll]
  | s :: ss => by simp [sOkAll, sOkAll_iff (ss := ss)]
theorem depAll_le : ∀ {ss : List Say} {n : Nat}, depAll ss ≤ n ↔ ∀ s ∈ ss, dep s ≤ n
  | [], n => by simp [depAll]
  | s :: ss, n => by
    have := depAll_le (ss := ss) (n := n)
    simp only [depAll, List.mem_cons, forall_eq_or_imp, Nat.max_le, this]
theorem dep_pos : ∀ s : Say, 1 ≤ dep s
  | .cmp _ _ _ => by simp [dep]
  | .pl _ _ _ => by simp [dep]
  | .no s => by simp [dep]
  | .jn _ ss => by simp [dep]
  | .iff s t => by simp [dep]
  | .ea _ s => by simp [dep]
  | .pa _ _ s => by simp [dep]
/-! ### as data -/
theorem noL_encB : ∀ b : Bs, noL (encB b) = true
  | .non => by simp [encB, noL]
  | .num z => by simp [encB, noL]
  | .cell r p => by simp [encB, noL, noLAll]
theorem noL_encM (a : Sm) : noL (encM a) = true := by simp [encM, noL, noLAll, noL_encB]
mutual
theorem noL_enc : ∀ s : Say, noL (enc s) = true
  | .cmp k a b => by simp [enc, noL, noLAll, noL_encM]
  | .pl k p q => by simp [enc, noL, noLAll]
  | .no s => by simp [enc, noL, noLAll, noL_enc s]
  | .jn k ss => by simp [enc, noL, noLAll, noL_encAll ss]
  | .iff s t => by simp [enc, noL, noLAll, noL_enc s, noL_enc t]
  | .ea x s => by simp [enc, noL, noLAll, noL_enc s]
  | .pa x y s => by simp [enc, noL, noLAll, noL_enc s]
theorem noL_encAll : ∀ ss : List Say, noLAll (encAll ss) = true
  | [] => by simp [encAll, noLAll]
  | s :: ss => by simp [encAll, noLAll, noL_enc s, noL_encAll ss]
end
theorem strOk_name {z : List Nat} (h : nameOk z = true) : PyData.strOk (S z) = true := by
  obtain ⟨_, _, hc⟩ := nameOk_iff.mp h
  unfold PyData.strOk
  rw [← Array.all_toList, List.all_eq_true]
  intro c h
  have := hc c h
  exact decide_eq_true (by omega)
theorem strOk_cw : ∀ k : Cw, PyData.strOk (S (wd k.s)) = true := by intro k; cases k <;> decide +kernel
theorem strOk_pw : ∀ k : Pw, PyData.strOk (S (wd k.s)) = true := by intro k; cases k <;> decide +kernel
theorem strOk_jw : ∀ k : Bool, PyData.strOk (S (wd (jw k))) = true := by intro k; cases k <;> decide +kernel
theorem lay_encB : ∀ b : Bs, bOk b = true → (encB b).canLay0 = true
  | .non, _ => by simp [encB, PyData.canLay0]
  | .num z, h => by
    have h : nameOk z = true := h
    simp [encB, PyData.canLay0, strOk_name h]
  | .cell r p, h => by
    have h : nameOk r = true ∧ nameOk p = true := by simpa [bOk] using h
    simp [encB, PyData.canLay0, PyData.canLayAll0, strOk_name h.1, strOk_name h.2]
theorem lay_encM {a : Sm} (h : mOk a = true) : (encM a).canLay0 = true := by
  have h1 : bOk a.1 = true := by
    unfold mOk at h
    rw [Bool.and_eq_true] at h
    exact h.1
  simp [encM, PyData.canLay0, PyData.canLayAll0, lay_encB a.1 h1]
mutual
theorem lay_enc : ∀ s : Say, sOk s = true → (enc s).canLay0 = true
  | .cmp k a b, h => by
    have h : mOk a = true ∧ mOk b = true := by simpa [sOk] using h
    simp [enc, PyData.canLay0, PyData.canLayAll0, strOk_cw, lay_encM h.1, lay_encM h.2]
  | .pl k p q, h => by
    have h : nameOk p = true ∧ nameOk q = true := by simpa [sOk] using h
    simp [enc, PyData.canLay0, PyData.canLayAll0, strOk_pw, strOk_name h.1, strOk_name h.2]
  | .no s, h => by
    have h : sOk s = true := by simpa [sOk] using h
    have w : PyData.strOk (S (wd "not")) = true := by decide +kernel
    simp [enc, PyData.canLay0, PyData.canLayAll0, w, lay_enc s h]
  | .jn k ss, h => by
    have h : ss.length ≤ 4 ∧ sOkAll ss = true := by simpa [sOk] using h
    simp [enc, PyData.canLay0, PyData.canLayAll0, strOk_jw, lay_encAll ss h.2]
  | .iff s t, h => by
    have h : sOk s = true ∧ sOk t = true := by simpa [sOk] using h
    have w : PyData.strOk (S (wd "if")) = true := by decide +kernel
    simp [enc, PyData.canLay0, PyData.canLayAll0, w, lay_enc s h.1, lay_enc t h.2]
  | .ea x s, h => by
    have h : nameOk x = true ∧ sOk s = true := by simpa [sOk] using h
    have w : PyData.strOk (S (wd "each")) = true := by decide +kernel
    simp [enc, PyData.canLay0, PyData.canLayAll0, w, lay_enc s h.2, strOk_name h.1]
  | .pa x y s, h => by
    have h : (nameOk x = true ∧ nameOk y = true) ∧ sOk s = true := by simpa [sOk] using h
    have w : PyData.strOk (S (wd "pairs")) = true := by decide +kernel
    simp [enc, PyData.canLay0, PyData.canLayAll0, w, lay_enc s h.2, strOk_name h.1.1, strOk_name h.1.2]
theorem lay_encAll : ∀ ss : List Say, sOkAll ss = true → PyData.canLayAll0 (encAll ss) = true
  | [], _ => by simp [encAll, PyData.canLayAll0]
  | s :: ss, h => by
    have h : sOk s = true ∧ sOkAll ss = true := by simpa [sOkAll] using h
    simp [encAll, PyData.canLayAll0, lay_enc s h.1, lay_encAll ss h.2]
end
theorem depth_encB : ∀ b : Bs, (encB b).depth ≤ 1
  | .non => by simp [encB, PyData.depth]
  | .num z => by simp [encB, PyData.depth]
  | .cell r p => by simp [encB, PyData.depth, PyData.depthAll]
theorem depth_encM (a : Sm) : (encM a).depth ≤ 2 := by
  have := depth_encB a.1
  simp only [encM, PyData.depth, PyData.depthAll]
  omega
mutual
theorem depth_enc : ∀ s : Say, (enc s).depth ≤ 2 * dep s + 1
  | .cmp k a b => by
    have h1 := depth_encM a
    have h2 := depth_encM b
    simp only [enc, dep, PyData.depth, PyData.depthAll]
    omega
  | .pl k p q => by
    simp only [enc, dep, PyData.depth, PyData.depthAll]
    omega
  | .no s => by
    have h1 := depth_enc s
    simp only [enc, dep, PyData.depth, PyData.depthAll]
    omega
  | .jn k ss => by
    have h1 := depth_encAll ss
    simp only [enc, dep, PyData.depth, PyData.depthAll]
    omega
  | .iff s t => by
    have h1 := depth_enc s
    have h2 := depth_enc t
    simp only [enc, dep, PyData.depth, PyData.depthAll]
    omega
  | .ea x s => by
    have h1 := depth_enc s
    simp only [enc, dep, PyData.depth, PyData.depthAll]
    omega
  | .pa x y s => by
    have h1 := depth_enc s
    simp only [enc, dep, PyData.depth, PyData.depthAll]
    omega
theorem depth_encAll : ∀ ss : List Say, PyData.depthAll (encAll ss) ≤ 2 * depAll ss + 1
  | [] => by simp [encAll, PyData.depthAll]
  | s :: ss => by
    have h1 := depth_enc s
    have h2 := depth_encAll ss
    simp only [encAll, depAll, PyData.depthAll]
    omega
end
theorem shaped_enc {s : Say} (h : sOk s = true) (hd : dep s ≤ 20) : SeqAt.shaped (enc s) = true := by
  unfold SeqAt.shaped
  rw [Bool.and_eq_true, decide_eq_true_eq]
  have := depth_enc s
  exact ⟨lay_enc s h, by omega⟩
theorem eqv_same {s : Say} (h : sOk s = true) : PyData.eqv (enc s) (enc s) = true := SeqAt.eqv_refl _ (lay_enc s h)
mutual
/-- None, whole numbers, texts, tuples of these -/
def plainD : PyData → Bool
  | .none | .int _ | .str _ => true
  | .tuple ds => plainAll ds
  | .bool _ | .list _ | .dict _ => false
def plainAll : List PyData → Bool
  | [] => true
  | d :: ds => plainD d && plainAll ds
end
mutual
theorem eqv_eq : ∀ d e : PyData, plainD d = true → plainD e = true → PyData.eqv d e = true → d = e
  | .none, e, _, he, h => by cases e <;> simp_all [PyData.eqv, plainD]
  | .int i, e, _, he, h => by cases e <;> simp_all [PyData.eqv, plainD]
  | .str x, e, _, he, h => by cases e <;> simp_all [PyData.eqv, plainD]
  | .bool _, _, hd, _, _ => by simp [plainD] at hd
  | .list _, _, hd, _, _ => by simp [plainD] at hd
  | .dict _, _, hd, _, _ => by simp [plainD] at hd
  | .tuple ds, e, hd, he, h => by
    cases e with
    | tuple es =>
      have hd : plainAll ds = true := by simpa [plainD] using hd
      have he : plainAll es = true := by simpa [plainD] using he
      have h : PyData.eqvAll ds es = true := by simpa [PyData.eqv] using h
      rw [eqvAll_eq ds es hd he h]
    | _ => simp_all [PyData.eqv, plainD]
theorem eqvAll_eq : ∀ ds es : List PyData, plainAll ds = true → plainAll es = true → PyData.eqvAll ds es = true → ds = es
  | [], [], _, _, _ => rfl
  | [], _ :: _, _, _, h => by simp [PyData.eqvAll] at h
  | _ :: _, [], _, _, h => by simp [PyData.eqvAll] at h
  | d :: ds, e :: es, hd, he, h => by
    have hd : plainD d = true ∧ plainAll ds = true := by simpa [plainAll] using hd
    have he : plainD e = true ∧ plainAll es = true := by simpa [plainAll] using he
    have h : PyData.eqv d e = true ∧ PyData.eqvAll ds es = true := by simpa [PyData.eqvAll] using h
    rw [eqv_eq d e hd.1 he.1 h.1, eqvAll_eq ds es hd.2 he.2 h.2]
end
theorem plain_encB : ∀ b : Bs, plainD (encB b) = true
  | .non => by simp [encB, plainD]
  | .num z => by simp [encB, plainD]
  | .cell r p => by simp [encB, plainD, plainAll]
theorem plain_encM (a : Sm) : plainD (encM a) = true := by simp [encM, plainD, plainAll, plain_encB]
mutual
theorem plain_enc : ∀ s : Say, plainD (enc s) = true
  | .cmp k a b => by simp [enc, plainD, plainAll, plain_encM]
  | .pl k p q => by simp [enc, plainD, plainAll]
  | .no s => by simp [enc, plainD, plainAll, plain_enc s]
  | .jn k ss => by simp [enc, plainD, plainAll, plain_encAll ss]
  | .iff s t => by simp [enc, plainD, plainAll, plain_enc s, plain_enc t]
  | .ea x s => by simp [enc, plainD, plainAll, plain_enc s]
  | .pa x y s => by simp [enc, plainD, plainAll, plain_enc s]
theorem plain_encAll : ∀ ss : List Say, plainAll (encAll ss) = true
  | [] => by simp [encAll, plainAll]
  | s :: ss => by simp [encAll, plainAll, plain_enc s, plain_encAll ss]
end
end Ep

/-! 8. Sayings as words: two are alike in words just where they are the same. -/
namespace Ep
open PySem PySem.Spec PyProof.Rows L2 SX
/-! ### first words -/
def wI (i : Fin 14) : List Nat := ((["most", "less", "same", "unlike", "ahead", "here", "next", "nexts", "and", "or", "not", "if", "each", "pairs"] : List String).map wd).getD i.val []
theorem wI_inj : ∀ i j : Fin 14, wI i = wI j → i = j := by decide +kernel
def Cw.i : Cw → Fin 14
  | .most => 0 | .less => 1 | .same => 2 | .unlike => 3
def Pw.i : Pw → Fin 14
  | .ahead => 4 | .here => 5 | .next => 6 | .nexts => 7
def jwi : Bool → Fin 14
  | true => 8 | false => 9
def Say.i : Say → Fin 14
  | .cmp k _ _ => k.i
  | .pl k _ _ => k.i
  | .no _ => 10
  | .jn k _ => jwi k
  | .iff _ _ => 11
  | .ea _ _ => 12
  | .pa _ _ _ => 13
/-- its kind, by number -/
def Say.c : Say → Nat
  | .cmp _ _ _ => 0
  | .pl _ _ _ => 1
  | .no _ => 2
  | .jn _ _ => 3
  | .iff _ _ => 4
  | .ea _ _ => 5
  | .pa _ _ _ => 6
def cI (i : Fin 14) : Nat := ([0, 0, 0, 0, 1, 1, 1, 1, 3, 3, 2, 4, 5, 6] : List Nat).getD i.val 0
theorem c_of (s : Say) : s.c = cI s.i := by
  cases s with
  | cmp k a b => cases k <;> rfl
  | pl k a b => cases k <;> rfl
  | jn k ss => cases k <;> rfl
  | _ => rfl
theorem cw_w : ∀ k : Cw, wd k.s = wI k.i := by intro k; cases k <;> decide +kernel
theorem pw_w : ∀ k : Pw, wd k.s = wI k.i := by intro k; cases k <;> decide +kernel
theorem jw_w : ∀ k : Bool, wd (jw k) = wI (jwi k) := by intro k; cases k <;> decide +kernel
theorem cw_inj {k l : Cw} (h : k.i = l.i) : k = l := by cases k <;> cases l <;> first | rfl | (exact absurd h (by decide))
theorem pw_inj {k l : Pw} (h : k.i = l.i) : k = l := by cases k <;> cases l <;> first | rfl | (exact absurd h (by decide))
theorem jw_inj {k l : Bool} (h : jwi k = jwi l) : k = l := by cases k <;> cases l <;> first | rfl | (exact absurd h (by decide))
theorem wd_not : wd "not" = wI 10 := by decide +kernel
theorem wd_if : wd "if" = wI 11 := by decide +kernel
theorem wd_each : wd "each" = wI 12 := by decide +kernel
theorem wd_pairs : wd "pairs" = wI 13 := by decide +kernel
theorem dstr_inj {x y : List Nat} (h : DStr x = DStr y) : x = y := S_inj (PyData.str.inj h)
theorem enc_head (s : Say) : ∃ r, enc s = .tuple (DStr (wI s.i) :: r) := by
  cases s with
  | cmp k a b => exact ⟨_, by rw [enc, cw_w]; rfl⟩
  | pl k a b => exact ⟨_, by rw [enc, pw_w]; rfl⟩
  | jn k ss => exact ⟨_, by rw [enc, jw_w]; rfl⟩
  | no s => exact ⟨_, by rw [enc, wd_not]; rfl⟩
  | iff s t => exact ⟨_, by rw [enc, wd_if]; rfl⟩
  | ea x s => exact ⟨_, by rw [enc, wd_each]; rfl⟩
  | pa x y s => exact ⟨_, by rw [enc, wd_pairs]; rfl⟩
theorem enc_i {s t : Say} (h : enc s = enc t) : s.i = t.i := by
  obtain ⟨r, e⟩ := enc_head s
  obtain ⟨r', e'⟩ := enc_head t
  rw [e, e'] at h
  exact wI_inj _ _ (dstr_inj (List.cons.inj (PyData.tuple.inj h)).1)
theorem enc_c {s t : Say} (h : s.i = t.i) : s.c = t.c := by rw [c_of, c_of, h]
theorem encB_inj : ∀ {a b : Bs}, encB a = encB b → a = b
  | .non, .non, _ => rfl
  | .non, .num _, h => by simp [encB] at h
  | .non, .cell _ _, h => by simp [encB] at h
  | .num _, .non, h => by simp [encB] at h
  | .num x, .num y, h => by rw [dstr_inj (show DStr x = DStr y from h)]
  | .num _, .cell _ _, h => by simp [encB] at h
  | .cell _ _, .non, h => by simp [encB] at h
  | .cell _ _, .num _, h => by simp [encB] at h
  | .cell r p, .cell r' p', h => by
    have e := PyData.tuple.inj (show PyData.tuple [DStr r, DStr p] = .tuple [DStr r', DStr p'] from h)
    have e1 := List.cons.inj e
    have e2 := List.cons.inj e1.2
    rw [dstr_inj e1.1, dstr_inj e2.1]
theorem encM_inj {a b : Sm} (h : encM a = encM b) : a = b := by
  have e := PyData.tuple.inj (show PyData.tuple [encB a.1, .int a.2] = .tuple [encB b.1, .int b.2] from h)
  have e1 := List.cons.inj e
  have e2 := List.cons.inj e1.2
  exact Prod.ext (encB_inj e1.1) (PyData.int.inj e2.1)
mutual
theorem enc_inj : ∀ s t : Say, enc s = enc t → s = t
  | .cmp k a b, t, h => by
    have hi := enc_i h
    have hc := enc_c hi
    cases t with
    | cmp k' a' b' =>
      have e := PyData.tuple.inj (show PyData.tuple [DStr (wd k.s), encM a, encM b] = .tuple [DStr (wd k'.s), encM a', encM b'] by simpa only [enc] using h)
      have e1 := (List.cons.inj e).2
      have e2 := List.cons.inj e1
      rw [cw_inj (show k.i = k'.i from hi), encM_inj e2.1, encM_inj (List.cons.inj e2.2).1]
    | _ => exact absurd hc (by simp [Say.c])
  | .pl k a b, t, h => by
    have hi := enc_i h
    have hc := enc_c hi
    cases t with
    | pl k' a' b' =>
      have e := PyData.tuple.inj (show PyData.tuple [DStr (wd k.s), DStr a, DStr b] = .tuple [DStr (wd k'.s), DStr a', DStr b'] by simpa only [enc] using h)
      have e1 := (List.cons.inj e).2
      have e2 := List.cons.inj e1
      rw [pw_inj (show k.i = k'.i from hi), dstr_inj e2.1, dstr_inj (List.cons.inj e2.2).1]
    | _ => exact absurd hc (by simp [Say.c])
  | .no s, t, h => by
    have hc := enc_c (enc_i h)
    cases t with
    | no s' =>
      have e := PyData.tuple.inj (show PyData.tuple [DStr (wd "not"), enc s] = .tuple [DStr (wd "not"), enc s'] by simpa only [enc] using h)
      rw [enc_inj s s' (List.cons.inj (List.cons.inj e).2).1]
    | _ => exact absurd hc (by simp [Say.c])
  | .jn k ss, t, h => by
    have hi := enc_i h
    have hc := enc_c hi
    cases t with
    | jn k' ss' =>
      have e := PyData.tuple.inj (show PyData.tuple [DStr (wd (jw k)), .tuple (encAll ss)] = .tuple [DStr (wd (jw k')), .tuple (encAll ss')] by simpa only [enc] using h)
      rw [jw_inj (show jwi k = jwi k' from hi), encAll_inj ss ss' (PyData.tuple.inj (List.cons.inj (List.cons.inj e).2).1)]
    | _ => exact absurd hc (by simp [Say.c])
  | .iff s u, t, h => by
    have hc := enc_c (enc_i h)
    cases t with
    | iff s' u' =>
      have e := PyData.tuple.inj (show PyData.tuple [DStr (wd "if"), enc s, enc u] = .tuple [DStr (wd "if"), enc s', enc u'] by simpa only [enc] using h)
      have e2 := List.cons.inj (List.cons.inj e).2
      rw [enc_inj s s' e2.1, enc_inj u u' (List.cons.inj e2.2).1]
    | _ => exact absurd hc (by simp [Say.c])
  | .ea x s, t, h => by
    have hc := enc_c (enc_i h)
    cases t with
    | ea x' s' =>
      have e := PyData.tuple.inj (show PyData.tuple [DStr (wd "each"), DStr x, enc s] = .tuple [DStr (wd "each"), DStr x', enc s'] by simpa only [enc] using h)
      have e2 := List.cons.inj (List.cons.inj e).2
      rw [dstr_inj e2.1, enc_inj s s' (List.cons.inj e2.2).1]
    | _ => exact absurd hc (by simp [Say.c])
  | .pa x y s, t, h => by
    have hc := enc_c (enc_i h)
    cases t with
    | pa x' y' s' =>
      have e := PyData.tuple.inj (show PyData.tuple [DStr (wd "pairs"), DStr x, DStr y, enc s] = .tuple [DStr (wd "pairs"), DStr x', DStr y', enc s'] by simpa only [enc] using h)
      have e2 := List.cons.inj (List.cons.inj e).2
      have e3 := List.cons.inj e2.2
      rw [dstr_inj e2.1, dstr_inj e3.1, enc_inj s s' (List.cons.inj e3.2).1]
    | _ => exact absurd hc (by simp [Say.c])
theorem encAll_inj : ∀ ss tt : List Say, encAll ss = encAll tt → ss = tt
  | [], [], _ => rfl
  | [], _ :: _, h => by simp [encAll] at h
  | _ :: _, [], h => by simp [encAll] at h
  | s :: ss, t :: tt, h => by
    have e := List.cons.inj (show enc s :: encAll ss = enc t :: encAll tt by simpa only [encAll] using h)
    rw [enc_inj s t e.1, encAll_inj ss tt e.2]
end
/-! ### words -/
def numT (n : Int) : List Nat := if n < 0 then 45 :: TL.numL n.natAbs else TL.numL n.natAbs
def baseT : Bs → List Nat
  | .non => []
  | .num z => z
  | .cell r p => r ++ 46 :: p
/-- what stands behind a base -/
def moreT (n : Int) : List Nat := if n = 0 then [] else if 0 < n then 43 :: TL.numL n.natAbs else 45 :: TL.numL n.natAbs
def smT (a : Sm) : List Nat := match a.1 with
  | .non => numT a.2
  | b => baseT b ++ moreT a.2
mutual
def toks : Say → List (List Nat)
  | .cmp k a b => [wd k.s, smT a, smT b]
  | .pl k p q => [wd k.s, p, q]
  | .no s => wd "not" :: toks s
  | .jn k ss => wd (jw k) :: wd "(" :: (toksAll ss ++ [wd ")"])
  | .iff s t => wd "if" :: (toks s ++ toks t)
  | .ea x s => wd "each" :: x :: toks s
  | .pa x y s => wd "pairs" :: x :: y :: toks s
def toksAll : List Say → List (List Nat)
  | [] => []
  | s :: ss => toks s ++ toksAll ss
end
theorem toks_head (s : Say) : ∃ r, toks s = wI s.i :: r := by
  cases s with
  | cmp k a b => exact ⟨_, by rw [toks, cw_w]; rfl⟩
  | pl k a b => exact ⟨_, by rw [toks, pw_w]; rfl⟩
  | jn k ss => exact ⟨_, by rw [toks, jw_w]; rfl⟩
  | no s => exact ⟨_, by rw [toks, wd_not]; rfl⟩
  | iff s t => exact ⟨_, by rw [toks, wd_if]; rfl⟩
  | ea x s => exact ⟨_, by rw [toks, wd_each]; rfl⟩
  | pa x y s => exact ⟨_, by rw [toks, wd_pairs]; rfl⟩
/-- parted where a sign stands that the first part has not -/
theorem split_at {p : Nat → Bool} : ∀ {a b x y : List Nat}, (∀ c ∈ a, p c = true) → (∀ c ∈ b, p c = true) → (∀ c r, x = c :: r → p c = false) → (∀ c r, y = c :: r → p c = false) → a ++ x = b ++ y → a = b ∧ x = y
  | [], [], _, _, _, _, _, _, h => ⟨rfl, h⟩
  | [], d :: b, x, y, _, hb, hx, _, h => by
    have h : x = d :: (b ++ y) := h
    have e := hx d _ h
    rw [hb d (List.mem_cons_self ..)] at e
    cases e
  | c :: a, [], x, y, ha, _, _, hy, h => by
    have h : c :: (a ++ x) = y := h
    have e := hy c _ h.symm
    rw [ha c (List.mem_cons_self ..)] at e
    cases e
  | c :: a, d :: b, x, y, ha, hb, hx, hy, h => by
    have h := List.cons.inj h
    obtain ⟨e1, e2⟩ := split_at (fun c hc => ha c (List.mem_cons_of_mem _ hc)) (fun c hc => hb c (List.mem_cons_of_mem _ hc)) hx hy h.2
    exact ⟨by rw [h.1, e1], e2⟩
theorem numL_head {n c : Nat} {r : List Nat} (h : TL.numL n = c :: r) : 48 ≤ c ∧ c ≤ 57 := TL.numL_digits n c (by rw [h]; exact List.mem_cons_self ..)
theorem numT_inj {m n : Int} (h : numT m = numT n) : m = n := by
  unfold numT at h
  by_cases hm : m < 0
  · by_cases hn : n < 0
    · rw [if_pos hm, if_pos hn] at h
      have := TL.numL_inj (List.cons.inj h).2
      omega
    · rw [if_pos hm, if_neg hn] at h
      have := numL_head h.symm
      omega
  · by_cases hn : n < 0
    · rw [if_neg hm, if_pos hn] at h
      have := numL_head h
      omega
    · rw [if_neg hm, if_neg hn] at h
      have := TL.numL_inj h
      omega
theorem moreT_inj {m n : Int} (h : moreT m = moreT n) : m = n := by
  unfold moreT at h
  by_cases hm : m = 0
  · by_cases hn : n = 0
    · omega
    · rw [if_pos hm, if_neg hn] at h
      by_cases hp : 0 < n
      · rw [if_pos hp] at h; cases h
      · rw [if_neg hp] at h; cases h
  · rw [if_neg hm] at h
    by_cases hn : n = 0
    · rw [if_pos hn] at h
      by_cases hp : 0 < m
      · rw [if_pos hp] at h; cases h
      · rw [if_neg hp] at h; cases h
    · rw [if_neg hn] at h
      by_cases hp : 0 < m
      · rw [if_pos hp] at h
        by_cases hq : 0 < n
        · rw [if_pos hq] at h
          have := TL.numL_inj (List.cons.inj h).2
          omega
        · rw [if_neg hq] at h
          have := (List.cons.inj h).1
          omega
      · rw [if_neg hp] at h
        by_cases hq : 0 < n
        · rw [if_pos hq] at h
          have := (List.cons.inj h).1
          omega
        · rw [if_neg hq] at h
          have := TL.numL_inj (List.cons.inj h).2
          omega
theorem moreT_head {n : Int} {c : Nat} {r : List Nat} (h : moreT n = c :: r) : c = 43 ∨ c = 45 := by
  unfold moreT at h
  by_cases hn : n = 0
  · rw [if_pos hn] at h; cases h
  · rw [if_neg hn] at h
    by_cases hp : 0 < n
    · rw [if_pos hp] at h
      exact .inl (List.cons.inj h).1.symm
    · rw [if_neg hp] at h
      exact .inr (List.cons.inj h).1.symm
theorem numT_head {n : Int} {c : Nat} {r : List Nat} (h : numT n = c :: r) : c = 45 ∨ (48 ≤ c ∧ c ≤ 57) := by
  unfold numT at h
  by_cases hn : n < 0
  · rw [if_pos hn] at h
    exact .inl (List.cons.inj h).1.symm
  · rw [if_neg hn] at h
    exact .inr (numL_head h)
theorem base_signs {b : Bs} (h : bOk b = true) : ∀ c ∈ baseT b, c = 46 ∨ (97 ≤ c ∧ c ≤ 122) := by
  cases b with
  | non => exact fun c hc => nomatch hc
  | num z =>
    intro c hc
    exact .inr ((nameOk_iff.mp h).2.2 c hc)
  | cell r p =>
    have h : nameOk r = true ∧ nameOk p = true := by simpa [bOk] using h
    intro c hc
    rcases List.mem_append.mp (show c ∈ r ++ 46 :: p from hc) with hc | hc
    · exact .inr ((nameOk_iff.mp h.1).2.2 c hc)
    · rcases List.mem_cons.mp hc with e | hc
      · exact .inl e
      · exact .inr ((nameOk_iff.mp h.2).2.2 c hc)
/-- a base that stands begins with a letter -/
theorem base_head {b : Bs} (h : bOk b = true) (hn : b ≠ .non) : ∃ c r, baseT b = c :: r ∧ 97 ≤ c ∧ c ≤ 122 := by
  cases b with
  | non => exact absurd rfl hn
  | num z =>
    obtain ⟨ne, _, hc⟩ := nameOk_iff.mp (show nameOk z = true from h)
    cases z with
    | nil => exact absurd rfl ne
    | cons c r => exact ⟨c, r, rfl, hc c (List.mem_cons_self ..)⟩
  | cell r p =>
    have h : nameOk r = true ∧ nameOk p = true := by simpa [bOk] using h
    obtain ⟨ne, _, hc⟩ := nameOk_iff.mp h.1
    cases r with
    | nil => exact absurd rfl ne
    | cons c r => exact ⟨c, r ++ 46 :: p, rfl, hc c (List.mem_cons_self ..)⟩
theorem name_nodot {z : List Nat} (h : nameOk z = true) : ∀ c ∈ z, (fun c => !decide (c = 46)) c = true := fun c hc => by
  have := (nameOk_iff.mp h).2.2 c hc
  have : c ≠ 46 := by omega
  simp [this]
theorem baseT_inj {a b : Bs} (ha : bOk a = true) (hb : bOk b = true) (na : a ≠ .non) (nb : b ≠ .non) (h : baseT a = baseT b) : a = b := by
  cases a with
  | non => exact absurd rfl na
  | num z =>
    cases b with
    | non => exact absurd rfl nb
    | num y => rw [show z = y from h]
    | cell r p =>
      have hm : 46 ∈ z := by
        rw [show z = r ++ 46 :: p from h]
        simp
      have := (nameOk_iff.mp (show nameOk z = true from ha)).2.2 46 hm
      omega
  | cell r p =>
    have ha : nameOk r = true ∧ nameOk p = true := by simpa [bOk] using ha
    cases b with
    | non => exact absurd rfl nb
    | num y =>
      have hm : 46 ∈ y := by
        rw [← show r ++ 46 :: p = y from h]
        simp
      have := (nameOk_iff.mp (show nameOk y = true from hb)).2.2 46 hm
      omega
    | cell r' p' =>
      have hb : nameOk r' = true ∧ nameOk p' = true := by simpa [bOk] using hb
      obtain ⟨e1, e2⟩ := split_at (p := fun c => !decide (c = 46)) (name_nodot ha.1) (name_nodot hb.1) (fun c r e => by cases e; rfl) (fun c r e => by cases e; rfl) (show r ++ 46 :: p = r' ++ 46 :: p' from h)
      rw [e1, (List.cons.inj e2).2]
theorem smT_base {b : Bs} {n : Int} (h : b ≠ .non) : smT (b, n) = baseT b ++ moreT n := by
  cases b with
  | non => exact absurd rfl h
  | num z => rfl
  | cell r p => rfl
theorem mOk_iff {a : Sm} : mOk a = true ↔ bOk a.1 = true ∧ a.2.natAbs < 10000000000 := by
  unfold mOk
  rw [Bool.and_eq_true, decide_eq_true_eq]
theorem smT_inj {a b : Sm} (ha : mOk a = true) (hb : mOk b = true) (h : smT a = smT b) : a = b := by
  obtain ⟨a, m⟩ := a
  obtain ⟨b, n⟩ := b
  have ha := (mOk_iff.mp ha).1
  have hb := (mOk_iff.mp hb).1
  by_cases na : a = .non
  · by_cases nb : b = .non
    · subst na nb
      rw [numT_inj (show numT m = numT n from h)]
    · subst na
      rw [smT_base nb] at h
      obtain ⟨c, r, e, h1, h2⟩ := base_head hb nb
      rw [e] at h
      have := numT_head (show numT m = c :: (r ++ moreT n) from h)
      omega
  · by_cases nb : b = .non
    · subst nb
      rw [smT_base na] at h
      obtain ⟨c, r, e, h1, h2⟩ := base_head ha na
      rw [e] at h
      have := numT_head (show numT n = c :: (r ++ moreT m) from h.symm)
      omega
    · rw [smT_base na, smT_base nb] at h
      have sg : ∀ {b : Bs}, bOk b = true → ∀ c ∈ baseT b, (fun c => !decide (c = 43) && !decide (c = 45)) c = true := fun hb c hc => by
        have := base_signs hb c hc
        have h1 : c ≠ 43 := by omega
        have h2 : c ≠ 45 := by omega
        simp [h1, h2]
      have sm : ∀ {n : Int} c r, moreT n = c :: r → (fun c => !decide (c = 43) && !decide (c = 45)) c = false := fun {n} c r e => by
        rcases moreT_head e with e | e
        · subst e; rfl
        · subst e; rfl
      obtain ⟨e1, e2⟩ := split_at (sg ha) (sg hb) sm sm h
      exact Prod.ext (baseT_inj ha hb na nb e1) (moreT_inj e2)
theorem close_no : ∀ i : Fin 14, wd ")" ≠ wI i := by decide +kernel
mutual
theorem toks_inj : ∀ (s t : Say) (r r' : List (List Nat)), sOk s = true → sOk t = true → toks s ++ r = toks t ++ r' → s = t ∧ r = r'
  | .cmp k a b, t, r, r', hs, ht, h => by
    obtain ⟨x, ex⟩ := toks_head (.cmp k a b)
    obtain ⟨y, ey⟩ := toks_head t
    have hi : Say.i (.cmp k a b) = t.i := by
      rw [ex, ey] at h
      exact wI_inj _ _ (List.cons.inj h).1
    have hc := enc_c hi
    cases t with
    | cmp k' a' b' =>
      have hs : mOk a = true ∧ mOk b = true := by simpa [sOk] using hs
      have ht : mOk a' = true ∧ mOk b' = true := by simpa [sOk] using ht
      simp only [toks, List.cons_append, List.nil_append, List.cons.injEq] at h
      rw [cw_inj (show k.i = k'.i from hi), smT_inj hs.1 ht.1 h.2.1, smT_inj hs.2 ht.2 h.2.2.1]
      exact ⟨rfl, h.2.2.2⟩
    | _ => exact absurd hc (by simp [Say.c])
  | .pl k a b, t, r, r', hs, ht, h => by
    obtain ⟨x, ex⟩ := toks_head (.pl k a b)
    obtain ⟨y, ey⟩ := toks_head t
    have hi : Say.i (.pl k a b) = t.i := by
      rw [ex, ey] at h
      exact wI_inj _ _ (List.cons.inj h).1
    have hc := enc_c hi
    cases t with
    | pl k' a' b' =>
      simp only [toks, List.cons_append, List.nil_append, List.cons.injEq] at h
      rw [pw_inj (show k.i = k'.i from hi), h.2.1, h.2.2.1]
      exact ⟨rfl, h.2.2.2⟩
    | _ => exact absurd hc (by simp [Say.c])
  | .no s, t, r, r', hs, ht, h => by
    obtain ⟨x, ex⟩ := toks_head (.no s)
    obtain ⟨y, ey⟩ := toks_head t
    have hi : Say.i (.no s) = t.i := by
      rw [ex, ey] at h
      exact wI_inj _ _ (List.cons.inj h).1
    have hc := enc_c hi
    cases t with
    | no s' =>
      have hs : sOk s = true := by simpa [sOk] using hs
      have ht : sOk s' = true := by simpa [sOk] using ht
      simp only [toks, List.cons_append, List.cons.injEq] at h
      obtain ⟨e1, e2⟩ := toks_inj s s' r r' hs ht h.2
      rw [e1]
      exact ⟨rfl, e2⟩
    | _ => exact absurd hc (by simp [Say.c])
  | .jn k ss, t, r, r', hs, ht, h => by
    obtain ⟨x, ex⟩ := toks_head (.jn k ss)
    obtain ⟨y, ey⟩ := toks_head t
    have hi : Say.i (.jn k ss) = t.i := by
      rw [ex, ey] at h
      exact wI_inj _ _ (List.cons.inj h).1
    have hc := enc_c hi
    cases t with
    | jn k' ss' =>
      have hs : ss.length ≤ 4 ∧ sOkAll ss = true := by simpa [sOk] using hs
      have ht : ss'.length ≤ 4 ∧ sOkAll ss' = true := by simpa [sOk] using ht
      simp only [toks, List.cons_append, List.append_assoc, List.nil_append, List.cons.injEq] at h
      obtain ⟨e1, e2⟩ := toksAll_inj ss ss' r r' hs.2 ht.2 h.2.2
      rw [jw_inj (show jwi k = jwi k' from hi), e1]
      exact ⟨rfl, e2⟩
    | _ => exact absurd hc (by simp [Say.c])
  | .iff s u, t, r, r', hs, ht, h => by
    obtain ⟨x, ex⟩ := toks_head (.iff s u)
    obtain ⟨y, ey⟩ := toks_head t
    have hi : Say.i (.iff s u) = t.i := by
      rw [ex, ey] at h
      exact wI_inj _ _ (List.cons.inj h).1
    have hc := enc_c hi
    cases t with
    | iff s' u' =>
      have hs : sOk s = true ∧ sOk u = true := by simpa [sOk] using hs
      have ht : sOk s' = true ∧ sOk u' = true := by simpa [sOk] using ht
      simp only [toks, List.cons_append, List.append_assoc, List.cons.injEq] at h
      obtain ⟨e1, e2⟩ := toks_inj s s' _ _ hs.1 ht.1 h.2
      obtain ⟨e3, e4⟩ := toks_inj u u' _ _ hs.2 ht.2 e2
      rw [e1, e3]
      exact ⟨rfl, e4⟩
    | _ => exact absurd hc (by simp [Say.c])
  | .ea x s, t, r, r', hs, ht, h => by
    obtain ⟨z, ex⟩ := toks_head (.ea x s)
    obtain ⟨y, ey⟩ := toks_head t
    have hi : Say.i (.ea x s) = t.i := by
      rw [ex, ey] at h
      exact wI_inj _ _ (List.cons.inj h).1
    have hc := enc_c hi
    cases t with
    | ea x' s' =>
      have hs : nameOk x = true ∧ sOk s = true := by simpa [sOk] using hs
      have ht : nameOk x' = true ∧ sOk s' = true := by simpa [sOk] using ht
      simp only [toks, List.cons_append, List.cons.injEq] at h
      obtain ⟨e1, e2⟩ := toks_inj s s' r r' hs.2 ht.2 h.2.2
      rw [e1, h.2.1]
      exact ⟨rfl, e2⟩
    | _ => exact absurd hc (by simp [Say.c])
  | .pa x y s, t, r, r', hs, ht, h => by
    obtain ⟨z, ex⟩ := toks_head (.pa x y s)
    obtain ⟨u, ey⟩ := toks_head t
    have hi : Say.i (.pa x y s) = t.i := by
      rw [ex, ey] at h
      exact wI_inj _ _ (List.cons.inj h).1
    have hc := enc_c hi
    cases t with
    | pa x' y' s' =>
      have hs : (nameOk x = true ∧ nameOk y = true) ∧ sOk s = true := by simpa [sOk] using hs
      have ht : (nameOk x' = true ∧ nameOk y' = true) ∧ sOk s' = true := by simpa [sOk] using ht
      simp only [toks, List.cons_append, List.cons.injEq] at h
      obtain ⟨e1, e2⟩ := toks_inj s s' r r' hs.2 ht.2 h.2.2.2
      rw [e1, h.2.1, h.2.2.1]
      exact ⟨rfl, e2⟩
    | _ => exact absurd hc (by simp [Say.c])
theorem toksAll_inj : ∀ (ss tt : List Say) (r r' : List (List Nat)), sOkAll ss = true → sOkAll tt = true → toksAll ss ++ (wd ")" :: r) = toksAll tt ++ (wd ")" :: r') → ss = tt ∧ r = r'
  | [], [], r, r', _, _, h => by
    simp only [toksAll, List.nil_append, List.cons.injEq] at h
    exact ⟨rfl, h.2⟩
  | [], t :: tt, r, r', _, _, h => by
    obtain ⟨y, ey⟩ := toks_head t
    simp only [toksAll, List.nil_append, ey, List.cons_append, List.cons.injEq] at h
    exact absurd h.1 (close_no _)
  | s :: ss, [], r, r', _, _, h => by
    obtain ⟨y, ey⟩ := toks_head s
    simp only [toksAll, List.nil_append, ey, List.cons_append, List.cons.injEq] at h
    exact absurd h.1.symm (close_no _)
  | s :: ss, t :: tt, r, r', hs, ht, h => by
    have hs : sOk s = true ∧ sOkAll ss = true := by simpa [sOkAll] using hs
    have ht : sOk t = true ∧ sOkAll tt = true := by simpa [sOkAll] using ht
    simp only [toksAll, List.append_assoc] at h
    obtain ⟨e1, e2⟩ := toks_inj s t _ _ hs.1 ht.1 h
    obtain ⟨e3, e4⟩ := toksAll_inj ss tt r r' hs.2 ht.2 e2
    rw [e1, e3]
    exact ⟨rfl, e4⟩
end
end Ep

/-! 9. The law's own defs: numbers, spots, sums, atoms. -/
namespace Ep
open PySem PySem.Spec PyProof.Rows L2 SX
open C8 (Cal Met Mak Def cal0 met0 mak0 pe_c pe_mk pe_mt pe_mt0 fnBody fnScope fnArgs fnScope_by pe_gc pss_cut)
theorem strV_app (a b : List (List Nat)) : strV a ++ strV b = strV (a ++ b) := List.map_append.symm
theorem strV_len (a : List (List Nat)) : (strV a).length = a.length := List.length_map ..
section
variable {P : Program} {w : World} {K : PySem.W.Frag} {mg : Str → Option Value} {base : Heap} {A : Ad}
/-! ### _law_number -/
abbrev sNumber : Stmt := top 47
abbrev nNumber : List Str := ["_law_deck_here", "_law_way"]
theorem scNumber : FnScope nNumber ["_law_deck_here"] (fnScope sNumber) := fnScope_by (by decide +kernel)
def spNumber : Sp := fun vs H Q _ => ∃ (p : Addr) (c : Nat), vs = [.ref p] ∧ Deck H p c ∧ c < 1000000000 ∧ ∀ (n : Int) H', Keep p H H' → Deck H' p (c + 4) → n.natAbs < 10000000000 → Q (.int n) H'
theorem ok_number (c_draw : Cal P w K mg base 1 "_law_draw" spDraw []) (D : Dfn K mg "_law_number" sNumber) : Cal P w K mg base 2 "_law_number" spNumber [] := by
  refine cal_of D scNumber (fun _ _ _ _ _ _ us hl => match us, hl with | [_], _ => rfl) (fun vs H Q E h => ?_) (fun f cdv A outer s H vs Q E hr h => ?_)
  · obtain ⟨p, c, rfl, _⟩ := h
    rfl
  obtain ⟨p, c, rfl, dk, c1, q⟩ := h
  refine ⟨_, (pss_cons
    (ps_set (i := 1) scNumber.nd rfl (Or.inl rfl) (pe_c c_draw hr (by decide) (by rfl) (pa_cons (pv 0) (pa_cons pe_int pa_nil))))
    (pss_cons
    (ps_if (pt_cmpR op_eq (pv 1) pe_int (nomark _)) (pss_one
    (ps_ret (pe_op op_mul (pe_op op_add (pe_op op_mul (pe_c c_draw hr (by decide) (by rfl) (pa_cons (pv 0) (pa_cons (pe_op op_pow pe_int pe_int) pa_nil))) pe_int) (pe_c c_draw hr (by decide) (by rfl) (pa_cons (pv 0) (pa_cons pe_int pa_nil)))) (pe_ix (ix_listK (K := K)) (pe_lst (pa_cons pe_int (pa_cons (pe_un un_neg pe_int) pa_nil))) (pe_c c_draw hr (by decide) (by rfl) (pa_cons (pv 0) (pa_cons pe_int pa_nil))) (fun _ _ => rfl))))) pss_nil)
    (pss_one
    (ps_ret (pe_ix (ix_listK (K := K)) (pe_lst (pa_cons pe_int (pa_cons pe_int (pa_cons (pe_un un_neg pe_int) (pa_cons pe_int (pa_cons (pe_un un_neg pe_int) (pa_cons pe_int (pa_cons pe_int (pa_cons pe_int (pa_cons (pe_un un_neg pe_int) (pa_cons pe_int (pa_cons pe_int (pa_cons pe_int (pa_cons (pe_un un_neg pe_int) (pa_cons pe_int (pa_cons pe_int pa_nil)))))))))))))))) (pv 1) (fun _ _ => rfl)))))), ?_⟩
  refine ⟨_, rfl, p, 16, c, rfl, dk, by decide, by decide, by omega, fun r H1 k1 d1 r0 r1 => ?_⟩
  refine ⟨_, rfl, rfl, _, rfl, ?_⟩
  refine ite2 (fun e => ?_) (fun e => ?_)
  · refine ⟨_, rfl, 10, 6, rfl, rfl, ⟨by decide, by decide, by decide⟩, p, _, _, rfl, d1, by decide, by decide, by omega, fun a H2 k2 d2 a0 a1 => ?_⟩
    have a1 : a < 1000000 := a1
    refine ⟨_, _, rfl, rfl, .inl ⟨by omega, by omega⟩, _, rfl, p, _, _, rfl, d2, by decide, by decide, by omega, fun b H3 k3 d3 b0 b1 => ?_⟩
    refine ⟨_, _, rfl, rfl, 1, rfl, sz_small (show 2 ≤ 16000000 by decide), fun l nl => ?_⟩
    refine ⟨_, rfl, p, 2, _, rfl, d3.new nl, by decide, by decide, by omega, fun r4 H4 k4 d4 s0 s1 => ?_⟩
    obtain ⟨x, mx, ex⟩ := pickI (ns := [1, -1]) s0 s1
    have hx : x = 1 ∨ x = -1 := by
      rcases List.mem_cons.mp mx with h | h
      · exact .inl h
      · exact .inr (List.mem_singleton.mp h)
    refine ⟨l, _, _, _, rfl, rfl, SqL.of (k4 l _ (d3.ne nl) upd_same), ex, _, _, rfl, rfl, .inl ⟨by omega, by omega⟩, ?_⟩
    refine q _ H4 (((k1.trans k2).trans k3).trans ((Keep.of (same_new nl)).trans k4)) (d4.mono (by omega)) ?_
    show ((a * 1000 + b) * x).natAbs < 10000000000
    rcases hx with h | h
    · rw [h]
      omega
    · rw [h]
      omega
  · have r15 : r < 15 := by
      have : ¬ r = 15 := fun z => e (by rw [z]; decide)
      omega
    refine ⟨1, rfl, 2, rfl, 3, rfl, 1, rfl, sz_small (show 15 ≤ 16000000 by decide), fun l nl => ?_⟩
    obtain ⟨x, mx, ex⟩ := pickI (ns := [0, 1, -1, 2, -2, 0, 1, 3, -3, 0, 1, 2, -1, 0, 5]) r0 r15
    refine ⟨_, rfl, l, _, _, _, rfl, rfl, SqL.of upd_same, ex, q _ _ (k1.trans (Keep.of (same_new nl))) ((d1.new nl).mono (by omega)) ?_⟩
    have all : ∀ x ∈ ([0, 1, -1, 2, -2, 0, 1, 3, -3, 0, 1, 2, -1, 0, 5] : List Int), x.natAbs < 10000000000 := by decide
    exact all x mx
/-! ### _law_spot -/
abbrev sSpot : Stmt := top 48
abbrev nSpot : List Str := ["_law_deck_here", "_law_cast", "_law_bound", "_law_spots"]
theorem scSpot : FnScope nSpot ["_law_deck_here", "_law_cast", "_law_bound"] (fnScope sSpot) := fnScope_by (by decide +kernel)
/-- a cast and bound names -/
structure CbOk (C : Cast) (bnd : List (List Nat)) : Prop where
  rows : ∀ z ∈ C.rows, nameOk z = true
  places : ∀ z ∈ C.places, nameOk z = true
  numbers : ∀ z ∈ C.numbers, nameOk z = true
  bds : ∀ z ∈ bnd, nameOk z = true
  r1 : 1 ≤ C.rows.length
  rl : C.rows.length ≤ 15
  pl : C.places.length ≤ 15
  nl : C.numbers.length ≤ 15
  bl : bnd.length ≤ 15
def spSpot (K : PySem.W.Frag) : Sp := fun vs H Q _ => ∃ (p : Addr) (cv : V) (b : Addr) (c : Nat) (C : Cast) (bnd : List (List Nat)), vs = [.ref p, cv, .ref b] ∧ Deck H p c ∧ c < 1000000000 ∧ Dp K H cv (castD C) ∧ SqT K H b (strV bnd) ∧ CbOk C bnd ∧
  ∀ z H', Keep p H H' → Deck H' p (c + 1) → nameOk z = true → Q (.str (S z)) H'
theorem end_ok : nameOk (wd "end") = true := by decide +kernel
theorem ok_spot (T : Tx K mg A) (c_draw : Cal P w K mg base 1 "_law_draw" spDraw []) (D : Dfn K mg "_law_spot" sSpot) : Cal P w K mg base 2 "_law_spot" (spSpot K) [] := by
  refine cal_of D scSpot (fun _ _ _ _ _ _ us hl => match us, hl with | [_, _, _], _ => rfl) (fun vs H Q E h => ?_) (fun f cdv A outer s H vs Q E hr h => ?_)
  · obtain ⟨p, cv, b, c, C, bnd, rfl, _⟩ := h
    rfl
  obtain ⟨p, cv, b, c, C, bnd, rfl, dk, c1, hC, hb, ok, q⟩ := h
  obtain ⟨ca, ra, pa, na, rfl, hc, _, hp, _⟩ := dp_cast hC
  refine ⟨_, (pss_cons
    (ps_set (i := 3) scSpot.nd rfl (Or.inl rfl) (pe_op op_catA (pe_op op_catA (pe_op op_catA (pv 2) (pv 2)) (pe_ix (ix_tupK (K := K)) (pv 1) pe_int (fun _ _ => rfl))) (pe_tup (pa_cons pe_str pa_nil))))
    (pss_one
    (ps_ret (pe_ix (ix_tupK (K := K)) (pv 3) (pe_c c_draw hr (by decide) (by rfl) (pa_cons (pv 0) (pa_cons (pe_callB call_len_seq (by rfl) T.len_ (by decide +kernel) (pa_cons (pv 3) pa_nil)) pa_nil))) (fun _ _ => rfl))))), ?_⟩
  have bl := ok.bl
  have pl := ok.pl
  refine ⟨_, rfl, _, rfl, cat_use hb hb (by rw [strV_len]; omega) fun q1 H1 s1 h1 => ?_⟩
  refine ⟨_, rfl, ca, _, 1, _, rfl, rfl, Same.sqT s1 hc, rfl, cat_use h1 (Same.sqT s1 hp) (by rw [List.length_append, strV_len, strV_len]; omega) fun q2 H2 s2 h2 => ⟨sz_small (show 1 ≤ 16000000 by decide), fun t nt => cat_use (Same.sqT (same_new nt) h2) (SqT.of upd_same) (by rw [List.length_append, List.length_append, strV_len, strV_len]; show bnd.length + bnd.length + C.places.length + 1 ≤ _; omega) fun q3 H3 s3 h3 => ?_⟩⟩
  have SS : Same H H3 := s1.trans (s2.trans ((same_new nt).trans s3))
  rw [strV_app, strV_app] at h3
  have h3 : SqT K H3 q3 (strV (bnd ++ bnd ++ C.places ++ [wd "end"])) := by
    rw [← strV_snoc]
    exact h3
  have d3 := dk.same SS
  have hl : (strV (bnd ++ bnd ++ C.places ++ [wd "end"])).length = bnd.length + bnd.length + C.places.length + 1 := by
    rw [strV_len, List.length_append, List.length_append, List.length_append]
    rfl
  refine ⟨_, rfl, _, rfl, _, rfl, q3, _, rfl, .inr h3, p, _, c, rfl, d3, by rw [hl]; omega, by rw [hl]; omega, by omega, fun r H4 k4 d4 r0 r1 => ?_⟩
  obtain ⟨z, mz, ez⟩ := pickS (zs := bnd ++ bnd ++ C.places ++ [wd "end"]) r0 (by rw [strV_len] at r1; exact r1)
  refine ⟨q3, _, r, _, rfl, rfl, (d3.tups k4).sq h3, ez, q z H4 ((Keep.of SS).trans k4) d4 ?_⟩
  rcases List.mem_append.mp mz with h | h
  · rcases List.mem_append.mp h with h | h
    · rcases List.mem_append.mp h with h | h
      · exact ok.bds z h
      · exact ok.bds z h
    · exact ok.places z h
  · rw [List.mem_singleton.mp h]
    exact end_ok
end
end Ep

/-! 10. The law's own defs: sums, atoms, joined. -/
namespace Ep
open PySem PySem.Spec PyProof.Rows L2 SX
open C8 (Cal Met Mak Def cal0 met0 mak0 pe_c pe_mk pe_mt pe_mt0 fnBody fnScope fnArgs fnScope_by pe_gc pss_cut)
theorem lay_strs : ∀ {zs : List (List Nat)}, (∀ z ∈ zs, nameOk z = true) → PyData.canLayAll0 (zs.map DStr) = true
  | [], _ => by simp [PyData.canLayAll0]
  | z :: zs, h => by
    have h1 := strOk_name (h z (List.mem_cons_self ..))
    have h2 := lay_strs fun y hy => h y (List.mem_cons_of_mem _ hy)
    simp [PyData.canLayAll0, PyData.canLay0, h1, h2]
theorem depth_strs : ∀ zs : List (List Nat), PyData.depthAll (zs.map DStr) = 0
  | [] => by simp [PyData.depthAll]
  | z :: zs => by simp [PyData.depthAll, PyData.depth, depth_strs zs]
theorem shaped_strs {zs : List (List Nat)} (h : ∀ z ∈ zs, nameOk z = true) : SeqAt.shaped (strsD zs) = true := by
  unfold SeqAt.shaped
  rw [Bool.and_eq_true, decide_eq_true_eq]
  refine ⟨?_, ?_⟩
  · have := lay_strs h
    simp [strsD, PyData.canLay0, this]
  · simp [strsD, PyData.depth, depth_strs]
theorem shaped_nil : SeqAt.shaped (.tuple []) = true := by decide +kernel
theorem eqv_nil (zs : List (List Nat)) : PyData.eqv (strsD zs) (.tuple []) = zs.isEmpty := by
  cases zs with
  | nil => simp [strsD, PyData.eqv, PyData.eqvAll]
  | cons z zs => simp [strsD, PyData.eqv, PyData.eqvAll]
theorem dp_nil {K : PySem.W.Frag} {H : Hp} {t : Addr} (h : SqT K H t []) : Dp K H (.ref t) (.tuple []) := .tup h .nil
section
variable {P : Program} {w : World} {K : PySem.W.Frag} {mg : Str → Option Value} {base : Heap} {A : Ad}
/-! ### _law_sum -/
abbrev sSum : Stmt := top 49
abbrev nSum : List Str := ["_law_deck_here", "_law_cast", "_law_bound", "_law_way", "_law_more"]
theorem scSum : FnScope nSum ["_law_deck_here", "_law_cast", "_law_bound"] (fnScope sSum) := fnScope_by (by decide +kernel)
def spSum (K : PySem.W.Frag) : Sp := fun vs H Q _ => ∃ (p : Addr) (cv : V) (b : Addr) (c : Nat) (C : Cast) (bnd : List (List Nat)), vs = [.ref p, cv, .ref b] ∧ Deck H p c ∧ c < 900000000 ∧ Dp K H cv (castD C) ∧ SqT K H b (strV bnd) ∧ CbOk C bnd ∧
  ∀ a v H', Keep p H H' → Deck H' p (c + 10) → mOk a = true → Dp K H' v (encM a) → Q v H'
theorem ok_sum (T : Tx K mg A) (c_draw : Cal P w K mg base 1 "_law_draw" spDraw []) (c_number : Cal P w K mg base 2 "_law_number" spNumber []) (c_spot : Cal P w K mg base 2 "_law_spot" (spSpot K) []) (D : Dfn K mg "_law_sum" sSum) :
    Cal P w K mg base 3 "_law_sum" (spSum K) [] := by
  refine cal_of D scSum (fun _ _ _ _ _ _ us hl => match us, hl with | [_, _, _], _ => rfl) (fun vs H Q E h => ?_) (fun f cdv A outer s H vs Q E hr h => ?_)
  · obtain ⟨p, cv, b, c, C, bnd, rfl, _⟩ := h
    rfl
  obtain ⟨p, cv, b, c, C, bnd, rfl, dk, c1, hC, hb, ok, q⟩ := h
  obtain ⟨ca, ra, pa, na, rfl, hc, hR, hP, hN⟩ := dp_cast hC
  refine ⟨_, (pss_cons
    (ps_set (i := 3) scSum.nd rfl (Or.inl rfl) (pe_c c_draw hr (by decide) (by rfl) (pa_cons (pv 0) (pa_cons pe_int pa_nil))))
    (pss_cons
    (ps_set (i := 4) scSum.nd rfl (Or.inl rfl) (pe_ix (ix_listK (K := K)) (pe_lst (pa_cons pe_int (pa_cons pe_int (pa_cons pe_int (pa_cons (pe_un un_neg pe_int) (pa_cons pe_int (pa_cons pe_int (pa_cons (pe_un un_neg pe_int) (pa_cons pe_int pa_nil))))))))) (pe_c c_draw hr (by decide) (by rfl) (pa_cons (pv 0) (pa_cons pe_int pa_nil))) (fun _ _ => rfl)))
    (pss_cut
    (ps_if (pt_cmpR op_eq (pe_c c_draw hr (by decide) (by rfl) (pa_cons (pv 0) (pa_cons pe_int pa_nil))) pe_int (nomark _)) (pss_one
    (ps_set (i := 4) scSum.nd rfl (Or.inl rfl) (pe_c c_number hr (by decide) (by rfl) (pa_cons (pv 0) pa_nil)))) pss_nil)
    (pss_cons
    (ps_if (pt_cmpR op_eq (pv 3) pe_int (nomark _)) (pss_one
    (ps_ret (pe_tup (pa_cons pe_non (pa_cons (pv 4) pa_nil))))) pss_nil)
    (pss_cut
    (ps_if (PW.pt (pw_and (pt_cmpR op_eq (pv 3) pe_int (nomark _)) (pw_and1 (pt_cmpR (op_neD hr.units) (pe_ix (ix_tupK (K := K)) (pv 1) pe_int (fun _ _ => rfl)) (pe_tup pa_nil) (nomark _))))) (pss_one
    (ps_ret (pe_tup (pa_cons (pe_ix (ix_tupK (K := K)) (pe_ix (ix_tupK (K := K)) (pv 1) pe_int (fun _ _ => rfl)) (pe_c c_draw hr (by decide) (by rfl) (pa_cons (pv 0) (pa_cons (pe_callB call_len_seq (by rfl) T.len_ (by decide +kernel) (pa_cons (pe_ix (ix_tupK (K := K)) (pv 1) pe_int (fun _ _ => rfl)) pa_nil)) pa_nil))) (fun _ _ => rfl)) (pa_cons (pv 4) pa_nil))))) pss_nil)
    (pss_one
    (ps_ret (pe_tup (pa_cons (pe_tup (pa_cons (pe_ix (ix_tupK (K := K)) (pe_ix (ix_tupK (K := K)) (pv 1) pe_int (fun _ _ => rfl)) (pe_c c_draw hr (by decide) (by rfl) (pa_cons (pv 0) (pa_cons (pe_callB call_len_seq (by rfl) T.len_ (by decide +kernel) (pa_cons (pe_ix (ix_tupK (K := K)) (pv 1) pe_int (fun _ _ => rfl)) pa_nil)) pa_nil))) (fun _ _ => rfl)) (pa_cons (pe_c c_spot hr (by decide) (by rfl) (pa_cons (pv 0) (pa_cons (pv 1) (pa_cons (pv 2) pa_nil)))) pa_nil))) (pa_cons (pv 4) pa_nil)))))))))), ?_⟩
  refine ⟨_, rfl, p, 6, c, rfl, dk, by decide, by decide, by omega, fun way H1 k1 d1 w0 w1 => ?_⟩
  refine ⟨1, rfl, 2, rfl, sz_small (show 8 ≤ 16000000 by decide), fun l nl => ?_⟩
  refine ⟨_, rfl, p, 8, _, rfl, d1.new nl, by decide, by decide, by omega, fun r2 H2 k2 d2 r0 r1 => ?_⟩
  have K2 := k1.trans ((Keep.of (same_new nl)).trans k2)
  obtain ⟨x, mx, ex⟩ := pickI (ns := [0, 0, 1, -1, 0, 2, -2, 0]) r0 r1
  have hx : x.natAbs < 10000000000 := by
    have all : ∀ x ∈ ([0, 0, 1, -1, 0, 2, -2, 0] : List Int), x.natAbs < 10000000000 := by decide
    exact all x mx
  refine ⟨l, _, _, _, rfl, rfl, SqL.of (k2 l _ (d1.ne nl) upd_same), ex, ?_⟩
  refine ⟨fun σ' H' => ∃ n : Int, σ' = [some (.ref p), some (.ref ca), some (.ref b), some (.int way), some (.int n)] ∧ Keep p H H' ∧ Deck H' p (c + 8) ∧ n.natAbs < 10000000000, ?_, ?_⟩
  · refine ⟨_, rfl, p, 8, _, rfl, d2, by decide, by decide, by omega, fun r3 H3 k3 d3 s0 s1 => ⟨rfl, _, rfl, ?_⟩⟩
    refine ite2 (fun e => ?_) (fun e => ?_)
    · refine ⟨_, rfl, p, _, rfl, d3, by omega, fun n H4 k4 d4 hn => ⟨n, rfl, (K2.trans k3).trans k4, d4.mono (by omega), hn⟩⟩
    · exact ⟨x, rfl, K2.trans k3, d3.mono (by omega), hx⟩
  · rintro σ' H3 ⟨n, rfl, k3, d3, hn⟩
    have t3 := dk.tups k3
    have hc3 := t3.sq hc
    have hR3 := t3.sq hR
    have hN3 := t3.sq hN
    have hb3 := t3.sq hb
    refine ⟨_, rfl, rfl, _, rfl, ?_⟩
    refine ite2 (fun e => ?_) (fun e => ?_)
    · refine ⟨_, rfl, sz_small (show 2 ≤ 16000000 by decide), fun t nt => ?_⟩
      refine q (.non, n) _ _ (k3.trans (Keep.of (same_new nt))) ((d3.new nt).mono (by omega)) (mOk_iff.mpr ⟨rfl, hn⟩) ?_
      exact .tup (SqT.of upd_same) (.cons .non (.cons (.int n) .nil))
    · refine ⟨fun σ' H' => σ' = [some (.ref p), some (.ref ca), some (.ref b), some (.int way), some (.int n)] ∧ Keep p H H' ∧ Deck H' p (c + 8), ?_, ?_⟩
      · refine ⟨_, rfl, rfl, _, rfl, ?_⟩
        refine ite2 (fun e2 => ?_) (fun e2 => iteF ⟨rfl, k3, d3⟩)
        refine ⟨_, rfl, ca, _, 2, _, rfl, rfl, hc3, rfl, Nat.zero_le _, fun t nt => ?_⟩
        have st := same_new (o := .tup []) nt
        refine ⟨strsD C.numbers, .tuple [], dp_strs_mk (Same.sqT st hN3), dp_nil (SqT.of upd_same), shaped_strs ok.numbers, shaped_nil, _, rfl, ?_⟩
        rw [eqv_nil]
        refine ite2 (fun e3 => ?_) (fun e3 => ⟨rfl, k3.trans (Keep.of st), d3.same st⟩)
        have n1 : 1 ≤ C.numbers.length := by
          cases hz : C.numbers with
          | nil =>
            rw [hz] at e3
            cases e3
          | cons a r => exact Nat.succ_le_succ (Nat.zero_le _)
        have nl' := ok.nl
        have lenN := strV_len C.numbers
        refine ⟨_, rfl, ca, _, 2, _, rfl, rfl, Same.sqT st hc3, rfl, _, rfl, _, rfl, ca, _, 2, _, rfl, rfl, Same.sqT st hc3, rfl, na, _, rfl, .inr (Same.sqT st hN3), p, _, _, rfl, d3.same st, by omega, by omega, by omega, fun r H4 k4 d4 r0 r1 => ?_⟩
        obtain ⟨z, mz, ez⟩ := pickS (zs := C.numbers) r0 (by omega)
        have t4 := (d3.same st).tups k4
        refine ⟨na, _, r, _, rfl, rfl, t4.sq (Same.sqT st hN3), ez, _, rfl, sz_small (show 2 ≤ 16000000 by decide), fun u nu => ?_⟩
        refine q (.num z, n) _ _ ((k3.trans (Keep.of st)).trans (k4.trans (Keep.of (same_new nu)))) ((d4.new nu).mono (by omega)) (mOk_iff.mpr ⟨ok.numbers z mz, hn⟩) ?_
        exact .tup (SqT.of upd_same) (.cons (.str _) (.cons (.int n) .nil))
      · rintro σ' H4 ⟨rfl, k4, d4⟩
        have t4 := dk.tups k4
        have r1' := ok.r1
        have rl' := ok.rl
        have lenR := strV_len C.rows
        refine ⟨_, rfl, ca, _, 0, _, rfl, rfl, t4.sq hc, rfl, _, rfl, _, rfl, ca, _, 0, _, rfl, rfl, t4.sq hc, rfl, ra, _, rfl, .inr (t4.sq hR), p, _, _, rfl, d4, by omega, by omega, by omega, fun r H5 k5 d5 s0 s1 => ?_⟩
        obtain ⟨z, mz, ez⟩ := pickS (zs := C.rows) s0 (by omega)
        have t5 := t4.trans (d4.tups k5)
        refine ⟨ra, _, r, _, rfl, rfl, t5.sq hR, ez, _, rfl, _, rfl, _, rfl, p, .ref ca, b, _, C, bnd, rfl, d5, by omega, Dp.tups t5 _ (noL_castD C) hC, t5.sq hb, ok, fun y H6 k6 d6 hy => ?_⟩
        refine ⟨sz_small (show 2 ≤ 16000000 by decide), fun t nt => ⟨_, rfl, sz_small (show 2 ≤ 16000000 by decide), fun u nu => ?_⟩⟩
        refine q (.cell z y, n) _ _ (k4.trans (k5.trans (k6.trans ((Keep.of (same_new nt)).trans (Keep.of (same_new nu)))))) (((d6.new nt).new nu).mono (by omega)) (mOk_iff.mpr ⟨?_, hn⟩) ?_
        · show (nameOk z && nameOk y) = true
          rw [ok.rows z mz, hy]
          rfl
        · exact .tup (SqT.of upd_same) (.cons (.tup (SqT.of (same_new nu _ _ upd_same)) (.cons (.str _) (.cons (.str _) .nil))) (.cons (.int n) .nil))
end
end Ep

/-! 11. The law's own defs: atoms, joined. -/
namespace Ep
open PySem PySem.Spec PyProof.Rows L2 SX
open C8 (Cal Met Mak Def cal0 met0 mak0 pe_c pe_mk pe_mt pe_mt0 fnBody fnScope fnArgs fnScope_by pe_gc pss_cut)
section
variable {P : Program} {w : World} {K : PySem.W.Frag} {mg : Str → Option Value} {base : Heap} {A : Ad}
/-! ### _law_atom -/
abbrev sAtom : Stmt := top 50
abbrev nAtom : List Str := ["_law_deck_here", "_law_cast", "_law_bound", "_law_word"]
theorem scAtom : FnScope nAtom ["_law_deck_here", "_law_cast", "_law_bound"] (fnScope sAtom) := fnScope_by (by decide +kernel)
def spAtom (K : PySem.W.Frag) : Sp := fun vs H Q _ => ∃ (p : Addr) (cv : V) (b : Addr) (c : Nat) (C : Cast) (bnd : List (List Nat)), vs = [.ref p, cv, .ref b] ∧ Deck H p c ∧ c < 800000000 ∧ Dp K H cv (castD C) ∧ SqT K H b (strV bnd) ∧ CbOk C bnd ∧
  ∀ s v H', Keep p H H' → Deck H' p (c + 25) → sOk s = true → w3 s = true → dep s ≤ 1 → Dp K H' v (enc s) → Q v H'
theorem cw_notin (k : Cw) : inV (.str (Str.ofString k.s)) [.str "ahead", .str "here"] = false := by cases k <;> decide +kernel
theorem ok_atom (T : Tx K mg A) (c_draw : Cal P w K mg base 1 "_law_draw" spDraw []) (c_spot : Cal P w K mg base 2 "_law_spot" (spSpot K) []) (c_sum : Cal P w K mg base 3 "_law_sum" (spSum K) []) (D : Dfn K mg "_law_atom" sAtom) :
    Cal P w K mg base 4 "_law_atom" (spAtom K) [] := by
  refine cal_of D scAtom (fun _ _ _ _ _ _ us hl => match us, hl with | [_, _, _], _ => rfl) (fun vs H Q E h => ?_) (fun f cdv A outer s H vs Q E hr h => ?_)
  · obtain ⟨p, cv, b, c, C, bnd, rfl, _⟩ := h
    rfl
  obtain ⟨p, cv, b, c, C, bnd, rfl, dk, c1, hC, hb, ok, q⟩ := h
  refine ⟨_, (pss_cons
    (ps_set (i := 3) scAtom.nd rfl (Or.inl rfl) (pe_ix (ix_listK (K := K)) (pe_lst (pa_cons pe_str (pa_cons pe_str (pa_cons pe_str (pa_cons pe_str (pa_cons pe_str (pa_cons pe_str (pa_cons pe_str (pa_cons pe_str pa_nil))))))))) (pe_c c_draw hr (by decide) (by rfl) (pa_cons (pv 0) (pa_cons pe_int pa_nil))) (fun _ _ => rfl)))
    (pss_cons
    (ps_if (pt_cmpR op_in_seq (pv 3) (pe_tup (pa_cons pe_str (pa_cons pe_str pa_nil))) (by rfl)) (pss_one
    (ps_ret (pe_tup (pa_cons (pv 3) (pa_cons (pe_c c_spot hr (by decide) (by rfl) (pa_cons (pv 0) (pa_cons (pv 1) (pa_cons (pv 2) pa_nil)))) (pa_cons (pe_c c_spot hr (by decide) (by rfl) (pa_cons (pv 0) (pa_cons (pv 1) (pa_cons (pv 2) pa_nil)))) pa_nil)))))) pss_nil)
    (pss_one
    (ps_ret (pe_tup (pa_cons (pv 3) (pa_cons (pe_c c_sum hr (by decide) (by rfl) (pa_cons (pv 0) (pa_cons (pv 1) (pa_cons (pv 2) pa_nil)))) (pa_cons (pe_c c_sum hr (by decide) (by rfl) (pa_cons (pv 0) (pa_cons (pv 1) (pa_cons (pv 2) pa_nil)))) pa_nil)))))))), ?_⟩
  refine ⟨sz_small (show 8 ≤ 16000000 by decide), fun l nl => ?_⟩
  refine ⟨_, rfl, p, 8, _, rfl, dk.new nl, by decide, by decide, by omega, fun r H1 k1 d1 r0 r1 => ?_⟩
  have K1 := (Keep.of (p := p) (same_new nl)).trans k1
  obtain ⟨v, mv, ev⟩ := pick (xs := [.str "most", .str "less", .str "same", .str "unlike", .str "most", .str "less", .str "ahead", .str "here"]) r0 r1
  refine ⟨l, _, _, _, rfl, rfl, SqL.of (k1 l _ (dk.ne nl) upd_same), ev, ?_⟩
  have hv : (∃ k : Cw, v = .str (Str.ofString k.s)) ∨ ∃ k : Pw, v = .str (Str.ofString k.s) ∧ inV v [.str "ahead", .str "here"] = true := by
    rcases List.mem_cons.mp mv with rfl | h
    · exact .inl ⟨.most, rfl⟩
    rcases List.mem_cons.mp h with rfl | h
    · exact .inl ⟨.less, rfl⟩
    rcases List.mem_cons.mp h with rfl | h
    · exact .inl ⟨.same, rfl⟩
    rcases List.mem_cons.mp h with rfl | h
    · exact .inl ⟨.unlike, rfl⟩
    rcases List.mem_cons.mp h with rfl | h
    · exact .inl ⟨.most, rfl⟩
    rcases List.mem_cons.mp h with rfl | h
    · exact .inl ⟨.less, rfl⟩
    rcases List.mem_cons.mp h with rfl | h
    · exact .inr ⟨.ahead, rfl, by decide +kernel⟩
    rw [List.mem_singleton.mp h]
    exact .inr ⟨.here, rfl, by decide +kernel⟩
  refine ⟨_, rfl, sz_small (show 2 ≤ 16000000 by decide), fun t nt => ?_⟩
  have K2 := K1.trans (Keep.of (same_new (o := .tup [.str "ahead", .str "here"]) nt))
  have d2 := d1.new (o := .tup [.str "ahead", .str "here"]) nt
  have t2 := dk.tups K2
  have hC2 := Dp.tups t2 _ (noL_castD C) hC
  have hb2 := t2.sq hb
  rcases hv with ⟨k, rfl⟩ | ⟨k, rfl, hin⟩
  · refine ⟨t, _, rfl, .inr (SqT.of upd_same), rfl, rfl, _, rfl, ?_⟩
    rw [cw_notin]
    refine iteF ⟨_, rfl, _, rfl, _, rfl, _, rfl, p, cv, b, _, C, bnd, rfl, d2, by omega, hC2, hb2, ok, fun a va H3 k3 d3 ha da => ?_⟩
    have t3 := d2.tups k3
    refine ⟨_, rfl, _, rfl, _, rfl, p, cv, b, _, C, bnd, rfl, d3, by omega, Dp.tups t3 _ (noL_castD C) hC2, t3.sq hb2, ok, fun a' va' H4 k4 d4 ha' da' => ?_⟩
    have t4 := d3.tups k4
    refine ⟨sz_small (show 3 ≤ 16000000 by decide), fun u nu => ?_⟩
    have t5 := Tups.new (o := .tup [.str (Str.ofString k.s), va, va']) nu
    refine q (.cmp k a a') _ _ (K2.trans (k3.trans (k4.trans (Keep.of (same_new nu))))) ((d4.new nu).mono (by omega)) ?_ rfl (by simp [dep]) ?_
    · simp [sOk, ha, ha']
    · rw [enc]
      exact .tup (SqT.of upd_same) (.cons (.str _) (.cons (Dp.tups (t4.trans t5) _ (noL_encM a) da) (.cons (Dp.tups t5 _ (noL_encM a') da') .nil)))
  · refine ⟨t, _, rfl, .inr (SqT.of upd_same), rfl, rfl, _, rfl, ?_⟩
    rw [hin]
    refine iteT ⟨_, rfl, _, rfl, _, rfl, _, rfl, p, cv, b, _, C, bnd, rfl, d2, by omega, hC2, hb2, ok, fun z H3 k3 d3 hz => ?_⟩
    have t3 := d2.tups k3
    refine ⟨_, rfl, _, rfl, _, rfl, p, cv, b, _, C, bnd, rfl, d3, by omega, Dp.tups t3 _ (noL_castD C) hC2, t3.sq hb2, ok, fun z' H4 k4 d4 hz' => ?_⟩
    refine ⟨sz_small (show 3 ≤ 16000000 by decide), fun u nu => ?_⟩
    refine q (.pl k z z') _ _ (K2.trans (k3.trans (k4.trans (Keep.of (same_new nu))))) ((d4.new nu).mono (by omega)) ?_ rfl (by simp [dep]) ?_
    · simp [sOk, hz, hz']
    · rw [enc]
      exact .tup (SqT.of upd_same) (.cons (.str _) (.cons (.str _) (.cons (.str _) .nil)))
/-! ### _law_joined -/
abbrev sJoined : Stmt := top 51
abbrev nJoined : List Str := ["_law_deck_here", "_law_parts", "_law_way"]
theorem scJoined : FnScope nJoined ["_law_deck_here", "_law_parts"] (fnScope sJoined) := fnScope_by (by decide +kernel)
def spJoined (K : PySem.W.Frag) : Sp := fun vs H Q _ => ∃ (p L : Addr) (c n : Nat) (ss : List Say) (ws : List V), vs = [.ref p, .ref L] ∧ Deck H p c ∧ c < 1000000000 ∧ H L = some (.lst ws) ∧ DpAll K H ws (ss.map enc) ∧ 2 ≤ ss.length ∧ ss.length ≤ 3 ∧ (∀ s ∈ ss, sOk s = true ∧ dep s ≤ n) ∧
  ∀ s v H', Keep p H H' → Deck H' p (c + 1) → sOk s = true → w3 s = true → dep s ≤ n + 1 → Dp K H' v (enc s) → Q v H'
theorem enc_jn {K : PySem.W.Frag} {H : Hp} {t u : Addr} {k : Bool} {ws : List V} {ss : List Say} (ht : SqT K H t [.str (Str.ofString (jw k)), .ref u]) (hu : SqT K H u ws) (h : DpAll K H ws (ss.map enc)) : Dp K H (.ref t) (enc (.jn k ss)) := by
  rw [enc, encAll_map]
  exact .tup ht (.cons (.str _) (.cons (.tup hu h) .nil))
theorem noLAll_map (ss : List Say) : noLAll (ss.map enc) = true := by
  rw [← encAll_map]
  exact noL_encAll ss
theorem ok_joined (T : Tx K mg A) (c_draw : Cal P w K mg base 1 "_law_draw" spDraw []) (D : Dfn K mg "_law_joined" sJoined) : Cal P w K mg base 2 "_law_joined" (spJoined K) [] := by
  refine cal_of D scJoined (fun _ _ _ _ _ _ us hl => match us, hl with | [_, _], _ => rfl) (fun vs H Q E h => ?_) (fun f cdv A outer s H vs Q E hr h => ?_)
  · obtain ⟨p, L, c, n, ss, ws, rfl, _⟩ := h
    rfl
  obtain ⟨p, L, c, n, ss, ws, rfl, dk, c1, hL, da, l2, l4, hss, q⟩ := h
  refine ⟨_, (pss_cons
    (ps_set (i := 2) scJoined.nd rfl (Or.inl rfl) (pe_c c_draw hr (by decide) (by rfl) (pa_cons (pv 0) (pa_cons pe_int pa_nil))))
    (pss_cons
    (ps_if (pt_cmpR op_eq (pv 2) pe_int (nomark _)) (pss_one
    (ps_ret (pe_tup (pa_cons pe_str (pa_cons (pe_callTy (call_tuple_ofK (K := K)) (by rfl) T.tuple_ (by decide +kernel) (pa_cons (pv 1) pa_nil)) pa_nil))))) pss_nil)
    (pss_cons
    (ps_if (pt_cmpR op_eq (pv 2) pe_int (nomark _)) (pss_one
    (ps_ret (pe_tup (pa_cons pe_str (pa_cons (pe_ix (ix_listK (K := K)) (pv 1) pe_int (fun _ _ => rfl)) (pa_cons (pe_ix (ix_listK (K := K)) (pv 1) pe_int (fun _ _ => rfl)) pa_nil)))))) pss_nil)
    (pss_one
    (ps_ret (pe_tup (pa_cons pe_str (pa_cons (pe_callTy (call_tuple_ofK (K := K)) (by rfl) T.tuple_ (by decide +kernel) (pa_cons (pv 1) pa_nil)) pa_nil)))))))), ?_⟩
  have nLp : L ≠ p := by
    intro e
    obtain ⟨a, b, m, h0, _⟩ := dk
    rw [← e, hL] at h0
    have e2 : ws = [.int a, .int b, .int m] := HO.lst.inj (Option.some.inj h0)
    have := DpAll.get' (i := 0) da (d := enc (ss[0]'(by omega))) (by rw [List.getElem?_map, List.getElem?_eq_getElem (by omega : 0 < ss.length)]; rfl)
    obtain ⟨v, hv, dv⟩ := this
    rw [e2] at hv
    cases hv
    obtain ⟨r, er⟩ := enc_head (ss[0]'(by omega))
    rw [er] at dv
    cases dv
  have all_ok : sOkAll ss = true := sOkAll_iff.mpr fun s hs => (hss s hs).1
  have all_dep : depAll ss ≤ n := depAll_le.mpr fun s hs => (hss s hs).2
  have jok : ∀ k : Bool, sOk (.jn k ss) = true ∧ w3 (.jn k ss) = true ∧ dep (.jn k ss) ≤ n + 1 := fun k => by
    refine ⟨?_, decide_eq_true l4, ?_⟩
    · have l4' : ss.length ≤ 4 := Nat.le_succ_of_le l4
      simp [sOk, all_ok, l4']
    · simp only [dep]
      omega
  refine ⟨_, rfl, p, 4, c, rfl, dk, by decide, by decide, by omega, fun r H1 k1 d1 r0 r1 => ?_⟩
  have hL1 := k1 L _ nLp hL
  have da1 := DpAll.tups (dk.tups k1) _ (noLAll_map ss) da
  refine ⟨_, rfl, rfl, _, rfl, ?_⟩
  refine ite2 (fun e => ?_) (fun e => ?_)
  · refine ⟨_, rfl, L, ws, rfl, .inl ⟨SqL.of hL1, fun t nt => ⟨sz_small (show 2 ≤ 16000000 by decide), fun u nu => ?_⟩⟩⟩
    have S2 := (same_new (o := .tup ws) nt).trans (same_new (o := .tup [.str "and", .ref t]) nu)
    refine q (.jn true ss) _ _ (k1.trans (Keep.of S2)) (d1.same S2) (jok true).1 (jok true).2.1 (jok true).2.2 ?_
    exact enc_jn (SqT.of upd_same) (SqT.of (same_new nu _ _ upd_same)) (DpAll.tups (Same.tups S2) _ (noLAll_map ss) da1)
  · refine ⟨_, rfl, rfl, _, rfl, ?_⟩
    refine ite2 (fun e => ?_) (fun e => ?_)
    · obtain ⟨s0, s1, rest, rfl⟩ : ∃ s0 s1 rest, ss = s0 :: s1 :: rest := by
        match ss, l2 with
        | s0 :: s1 :: rest, _ => exact ⟨s0, s1, rest, rfl⟩
      obtain ⟨v0, w1, rfl, e0, dr⟩ := dpa_cons da1
      obtain ⟨v1, w2, rfl, e1, dr⟩ := dpa_cons dr
      have o0 := hss s0 (List.mem_cons_self ..)
      have o1 := hss s1 (List.mem_cons_of_mem _ (List.mem_cons_self ..))
      refine ⟨_, rfl, L, _, 0, v0, rfl, rfl, SqL.of hL1, at_of' (j := 0) rfl rfl, _, rfl, L, _, 1, v1, rfl, rfl, SqL.of hL1, at_of' (j := 1) rfl rfl, sz_small (show 3 ≤ 16000000 by decide), fun t nt => ?_⟩
      have t2 := Tups.new (o := .tup [.str "if", v0, v1]) nt
      refine q (.iff s0 s1) _ _ (k1.trans (Keep.of (same_new nt))) (d1.new nt) ?_ rfl ?_ ?_
      · simp [sOk, o0.1, o1.1]
      · simp only [dep]
        omega
      · rw [enc]
        exact .tup (SqT.of upd_same) (.cons (.str _) (.cons (Dp.tups t2 _ (noL_enc s0) e0) (.cons (Dp.tups t2 _ (noL_enc s1) e1) .nil)))
    · refine ⟨_, rfl, L, ws, rfl, .inl ⟨SqL.of hL1, fun t nt => ⟨sz_small (show 2 ≤ 16000000 by decide), fun u nu => ?_⟩⟩⟩
      have S2 := (same_new (o := .tup ws) nt).trans (same_new (o := .tup [.str "or", .ref t]) nu)
      refine q (.jn false ss) _ _ (k1.trans (Keep.of S2)) (d1.same S2) (jok false).1 (jok false).2.1 (jok false).2.2 ?_
      exact enc_jn (SqT.of upd_same) (SqT.of (same_new nu _ _ upd_same)) (DpAll.tups (Same.tups S2) _ (noLAll_map ss) da1)
end
end Ep

/-! 12. The law's own defs: bodies. -/
namespace Ep
open PySem PySem.Spec PyProof.Rows L2 SX
open C8 (Cal Met Mak Def cal0 met0 mak0 pe_c pe_mk pe_mt pe_mt0 fnBody fnScope fnArgs fnScope_by pe_gc pss_cut)
section
variable {P : Program} {w : World} {K : PySem.W.Frag} {mg : Str → Option Value} {base : Heap} {A : Ad}
/-- a promise that nobody can ask for -/
theorem cal_none {x : Str} {st : Stmt} {ps : List Str} {k : Nat} {sp : Sp} (D : Dfn K mg x st)
    (hb : ∀ (kV doc pm : Value) (an : Option Addr) (cdv ct : Value) (us : List Value), us.length = ps.length → bindArgs (PySem.W.fnOf x x (fnArgs st) (fnBody st) (fnScope st) .none kV doc pm an cdv ct) ⟨us, []⟩ = pure (ps.zip us))
    (no : ∀ vs H Q E, ¬ sp vs H Q E) : Cal P w K mg base k x sp [] := by
  obtain ⟨f, fd, D, df⟩ := D.ex
  exact ⟨f, fd, ps, [], ⟨fun vs H Q E h => absurd h (no vs H Q E), fun A outer s H args us vs Q E _ _ _ _ h => absurd h (no vs H Q E)⟩, D.mgf, D.kp, D.fn.binds df hb, .nil⟩
def bN : Nat → Nat
  | 0 => 30
  | d + 1 => 3 * bN d + 30
theorem bN_ge : ∀ d, 30 ≤ bN d
  | 0 => Nat.le_refl _
  | d + 1 => by
    show 30 ≤ 3 * bN d + 30
    omega
/-! ### _law_body -/
abbrev sBody : Stmt := top 52
abbrev nBody : List Str := ["_law_deck_here", "_law_cast", "_law_bound", "_law_room", "_law_deep", "_law_way", "_law_many", "_law_k"]
theorem scBody : FnScope nBody ["_law_deck_here", "_law_cast", "_law_bound", "_law_room", "_law_deep"] (fnScope sBody) := fnScope_by (by decide +kernel)
/-- for depths below n -/
def spBody (K : PySem.W.Frag) (n : Nat) : Sp := fun vs H Q _ => ∃ (p : Addr) (cv : V) (b : Addr) (c : Nat) (C : Cast) (bnd : List (List Nat)) (room : Int) (d : Nat), vs = [.ref p, cv, .ref b, .int room, .int (d : Int)] ∧ d < n ∧ Deck H p c ∧ c + bN d < 700000000 ∧ Dp K H cv (castD C) ∧ SqT K H b (strV bnd) ∧ CbOk C bnd ∧
  ∀ s v H', Keep p H H' → Deck H' p (c + bN d) → sOk s = true → dep s ≤ d + 1 → Dp K H' v (enc s) → Q v H'
theorem ok_body (T : Tx K mg A) (c_draw : Cal P w K mg base 1 "_law_draw" spDraw []) (c_atom : Cal P w K mg base 4 "_law_atom" (spAtom K) []) (c_joined : Cal P w K mg base 2 "_law_joined" (spJoined K) []) (D : Dfn K mg "_law_body" sBody) :
    ∀ n, Cal P w K mg base (4 + n) "_law_body" (spBody K n) []
  | 0 => cal_none (ps := ["_law_deck_here", "_law_cast", "_law_bound", "_law_room", "_law_deep"]) D (fun _ _ _ _ _ _ us hl => match us, hl with | [_, _, _, _, _], _ => rfl) (fun vs H Q E h => by
    obtain ⟨p, cv, b, c, C, bnd, room, d, _, h, _⟩ := h
    exact absurd h (Nat.not_lt_zero _))
  | n + 1 => by
    have c_body := ok_body T c_draw c_atom c_joined D n
    refine cal_of D scBody (fun _ _ _ _ _ _ us hl => match us, hl with | [_, _, _, _, _], _ => rfl) (fun vs H Q E h => ?_) (fun f cdv A outer s H vs Q E hr h => ?_)
    · obtain ⟨p, cv, b, c, C, bnd, room, d, rfl, _⟩ := h
      rfl
    obtain ⟨p, cv, b, c, C, bnd, room, d, rfl, dn, dk, c1, hC, hb, ok, q⟩ := h
    have b30 := bN_ge d
    have hr4 : Room 4 _ := hr.mono (Nat.le_add_right 4 n)
    refine ⟨_, (pss_cons
    (ps_set (i := 5) scBody.nd rfl (Or.inl rfl) (pe_c c_draw hr4 (by decide) (by rfl) (pa_cons (pv 0) (pa_cons pe_int pa_nil))))
    (pss_cons
    (ps_if (PW.pt (pw_or (pt_cmpR op_eq (pv 4) pe_int (nomark _)) (pw_or (pt_cmpR op_lt (pv 3) pe_int (nomark _)) (pw_or1 (pt_cmpR op_lt (pv 5) pe_int (nomark _)))))) (pss_one
    (ps_ret (pe_c c_atom hr4 (by decide) (by rfl) (pa_cons (pv 0) (pa_cons (pv 1) (pa_cons (pv 2) pa_nil)))))) pss_nil)
    (pss_cons
    (ps_if (pt_cmpR op_eq (pv 5) pe_int (nomark _)) (pss_one
    (ps_ret (pe_tup (pa_cons pe_str (pa_cons (pe_c c_body hr (Nat.le_refl _) (by rfl) (pa_cons (pv 0) (pa_cons (pv 1) (pa_cons (pv 2) (pa_cons (pv 3) (pa_cons (pe_op op_sub (pv 4) pe_int) pa_nil)))))) pa_nil))))) pss_nil)
    (pss_cut
    (ps_if (PW.pt (pw_and (pt_cmpR op_eq (pv 5) pe_int (nomark _)) (pw_and1 (pt_cmpR op_eq (pe_c c_draw hr4 (by decide) (by rfl) (pa_cons (pv 0) (pa_cons pe_int pa_nil))) pe_int (nomark _))))) (pss_one
    (ps_ret (pe_ix (ix_listK (K := K)) (pe_lst (pa_cons (pe_tup (pa_cons pe_str (pa_cons (pe_tup pa_nil) pa_nil))) (pa_cons (pe_tup (pa_cons pe_str (pa_cons (pe_tup pa_nil) pa_nil))) pa_nil))) (pe_c c_draw hr4 (by decide) (by rfl) (pa_cons (pv 0) (pa_cons pe_int pa_nil))) (fun _ _ => rfl)))) pss_nil)
    (pss_cons
    (ps_set (i := 6) scBody.nd rfl (Or.inr rfl) (pe_ix (ix_listK (K := K)) (pe_lst (pa_cons pe_int (pa_cons pe_int (pa_cons pe_int pa_nil)))) (pe_c c_draw hr4 (by decide) (by rfl) (pa_cons (pv 0) (pa_cons pe_int pa_nil))) (fun _ _ => rfl)))
    (pss_cut
    (ps_if (pt_cmpR op_lt (pv 3) pe_int (nomark _)) (pss_one
    (ps_set (i := 6) scBody.nd rfl (Or.inr rfl) pe_int)) pss_nil)
    (pss_one
    (ps_ret (pe_c c_joined hr4 (by decide) (by rfl) (pa_cons (pv 0) (pa_cons (pe_lc (own := [("_law_k", 7)]) (g := gName 7) (tt := tYes) rfl scBody.nd (pi_range1 rfl T.range_ (pa_cons (pv 6) pa_nil)) (blkOk_by (own := [("_law_k", 7)]) (N := nBody) (sc := fnScope sBody) (by decide +kernel)) (fun _ _ _ _ _ => pg_name (i := 7) scBody.nd rfl (Or.inl rfl)) (fun _ _ _ _ _ => pts_nil) (fun _ _ _ _ _ => (pe_c c_body hr (Nat.le_refl _) (by rfl) (pa_cons (pv 0) (pa_cons (pv 1) (pa_cons (pv 2) (pa_cons (pe_op op_fdivN (pv 3) (pv 6)) (pa_cons (pe_op op_sub (pv 4) pe_int) pa_nil)))))))) pa_nil))))))))))), ?_⟩
    refine ⟨_, rfl, p, 8, c, rfl, dk, by decide, by decide, by omega, fun way H1 k1 d1 w0 w1 => ?_⟩
    have t1 := dk.tups k1
    have hC1 := Dp.tups t1 _ (noL_castD C) hC
    have hb1 := t1.sq hb
    dsimp only [gName, tSeq, tIfS]
    refine or2 (a := decide (V.int (d : Int) = V.int 0)) (b := decide (room < 2) || decide (way < 4)) (fun R' q' => ⟨_, rfl, rfl, _, rfl, q'⟩) (fun R' q' => or2 (a := decide (room < 2)) (b := decide (way < 4)) (fun R'' q'' => ⟨_, rfl, _, _, rfl, rfl, _, rfl, q''⟩) (fun R'' q'' => ⟨_, rfl, _, _, rfl, rfl, _, rfl, q''⟩) q') ?_
    refine ite2 (fun e => ?_) (fun e => ?_)
    · refine ⟨_, rfl, _, rfl, _, rfl, p, cv, b, _, C, bnd, rfl, d1, by omega, hC1, hb1, ok, fun s v H2 k2 d2 hs _ hd da => ?_⟩
      exact q s v H2 (k1.trans k2) (d2.mono (by omega)) hs (by omega) da
    · have d0 : d ≠ 0 := by
        intro z
        subst z
        exact e (by simp)
      obtain ⟨d, rfl⟩ : ∃ d', d = d' + 1 := ⟨d - 1, by omega⟩
      have bS : bN (d + 1) = 3 * bN d + 30 := rfl
      have b30' := bN_ge d
      have es : ((d + 1 : Nat) : Int) - 1 = (d : Int) := by omega
      refine ⟨_, rfl, rfl, _, rfl, ?_⟩
      refine ite2 (fun e4 => ?_) (fun e4 => ?_)
      · refine ⟨_, rfl, _, rfl, _, rfl, _, rfl, _, rfl, _, _, rfl, rfl, p, cv, b, _, C, bnd, room, d, congrArg (fun z => [V.ref p, cv, V.ref b, V.int room, V.int z]) es, by omega, d1, by omega, hC1, hb1, ok, fun s v H2 k2 d2 hs hd da => ⟨sz_small (show 2 ≤ 16000000 by decide), fun t nt => ?_⟩⟩
        refine q (.no s) _ _ (k1.trans (k2.trans (Keep.of (same_new nt)))) ((d2.new nt).mono (by omega)) (by simpa [sOk] using hs) (by simp only [dep]; omega) ?_
        rw [enc]
        exact .tup (SqT.of upd_same) (.cons (.str _) (.cons (Dp.tups (Tups.new nt) _ (noL_enc s) da) .nil))
      · refine ⟨fun σ' H' => σ' = [some (.ref p), some cv, some (.ref b), some (.int room), some (.int ((d + 1 : Nat) : Int)), some (.int way), none, none] ∧ Keep p H H' ∧ Deck H' p (c + 2), ?_, ?_⟩
        · refine ⟨_, rfl, rfl, _, rfl, ?_⟩
          refine ite2 (fun e5 => ?_) (fun e5 => iteF ⟨rfl, k1, d1.mono (by omega)⟩)
          refine ⟨_, rfl, p, 4, _, rfl, d1, by decide, by decide, by omega, fun r2 H2 k2 d2 r0 r1 => ⟨rfl, _, rfl, ?_⟩⟩
          refine ite2 (fun e6 => ?_) (fun e6 => ⟨rfl, k1.trans k2, d2⟩)
          refine ⟨Nat.zero_le _, fun u1 n1 => ⟨sz_small (show 2 ≤ 16000000 by decide), fun t1 m1 => ⟨Nat.zero_le _, fun u2 n2 => ⟨sz_small (show 2 ≤ 16000000 by decide), fun t2 m2 => ⟨sz_small (show 2 ≤ 16000000 by decide), fun l nl => ?_⟩⟩⟩⟩⟩
          have a1 := same_new (o := .tup []) n1
          have a2 := same_new (o := .tup [.str "and", .ref u1]) m1
          have a3 := same_new (o := .tup []) n2
          have a4 := same_new (o := .tup [.str "or", .ref u2]) m2
          have a5 := same_new (o := .lst [.ref t1, .ref t2]) nl
          have SS := a1.trans (a2.trans (a3.trans (a4.trans a5)))
          have dl := d2.same SS
          refine ⟨_, rfl, p, 2, _, rfl, dl, by decide, by decide, by omega, fun r3 H3 k3 d3 s0 s1 => ?_⟩
          have nlp : l ≠ p := (d2.same (a1.trans (a2.trans (a3.trans a4)))).ne nl
          have KK := (k1.trans k2).trans ((Keep.of SS).trans k3)
          have t3 := dl.tups k3
          have hs1 : SqT K H3 t1 [.str "and", .ref u1] := t3.sq (SqT.of (a5 _ _ (a4 _ _ (a3 _ _ upd_same))))
          have hu1 : SqT K H3 u1 [] := t3.sq (SqT.of (a5 _ _ (a4 _ _ (a3 _ _ (a2 _ _ upd_same)))))
          have hs2 : SqT K H3 t2 [.str "or", .ref u2] := t3.sq (SqT.of (a5 _ _ upd_same))
          have hu2 : SqT K H3 u2 [] := t3.sq (SqT.of (a5 _ _ (a4 _ _ upd_same)))
          obtain ⟨v, mv, ev⟩ := pick (xs := [.ref t1, .ref t2]) s0 s1
          refine ⟨l, _, _, _, rfl, rfl, SqL.of (k3 l _ nlp upd_same), ev, ?_⟩
          rcases List.mem_cons.mp mv with rfl | h
          · refine q (.jn true []) _ _ KK (d3.mono (by omega)) (by simp [sOk, sOkAll]) (by simp [dep, depAll]) ?_
            exact enc_jn (k := true) hs1 hu1 .nil
          · rw [List.mem_singleton.mp h]
            refine q (.jn false []) _ _ KK (d3.mono (by omega)) (by simp [sOk, sOkAll]) (by simp [dep, depAll]) ?_
            exact enc_jn (k := false) hs2 hu2 .nil
        · rintro σ' H2 ⟨rfl, k2, d2⟩
          refine ⟨sz_small (show 3 ≤ 16000000 by decide), fun l nl => ?_⟩
          refine ⟨_, rfl, p, 3, _, rfl, d2.new nl, by decide, by decide, by omega, fun r3 H3 k3 d3 r0 r1 => ?_⟩
          obtain ⟨m, mm, em⟩ := pickN (ns := [2, 2, 3]) r0 r1
          have hm : 2 ≤ m ∧ m ≤ 3 := by
            have all : ∀ x ∈ ([2, 2, 3] : List Nat), 2 ≤ x ∧ x ≤ 3 := by decide
            exact all m mm
          refine ⟨l, _, _, _, rfl, rfl, SqL.of (k3 l _ (d2.ne nl) upd_same), em, ?_⟩
          have K3 := k2.trans ((Keep.of (same_new nl)).trans k3)
          refine ⟨fun σ' H' => H3 = H' ∧ ∃ m : Nat, σ' = [some (.ref p), some cv, some (.ref b), some (.int room), some (.int ((d + 1 : Nat) : Int)), some (.int way), some (.int (m : Int)), none] ∧ 2 ≤ m ∧ m ≤ 3, ?_, ?_⟩
          · refine ⟨_, rfl, _, _, rfl, rfl, _, rfl, ?_⟩
            exact ite2 (fun _ => ⟨rfl, 2, rfl, by decide⟩) (fun _ => ⟨rfl, m, rfl, hm⟩)
          · rintro σ' H4 ⟨rfl, m, rfl, m2, m3⟩
            have t3 := dk.tups K3
            refine ⟨_, rfl, _, rfl, _, rfl, by omega, by omega, fun L nL => ?_⟩
            have nLp := d3.ne nL
            have nLH := K3.free nL nLp
            refine lc_range (lo := 0) (n := ((m : Nat) : Int).toNat) (fun i H' => ∃ (ss : List Say) (ws : List V), ss.length = i ∧ H' L = some (.lst ws) ∧ DpAll K H' ws (ss.map enc) ∧ (∀ s ∈ ss, sOk s = true ∧ dep s ≤ d + 1) ∧ Keep p H H' ∧ Deck H' p (c + 3 + i * bN d))
              ⟨[], [], rfl, upd_same, .nil, (fun _ h => nomatch h), K3.updN nLH, (d3.new nL).mono (by omega)⟩ ?_ ?_
            · rintro i H5 hi ⟨ss, ws, el, hL, da, hss, k5, d5⟩
              have hi3 : i < 3 := by omega
              have t5 := dk.tups k5
              have hib : i * bN d ≤ 2 * bN d := Nat.mul_le_mul_right _ (by omega)
              refine ⟨rfl, _, rfl, _, rfl, _, rfl, _, rfl, _, rfl, _, _, rfl, rfl, ⟨by omega, by omega⟩, _, rfl, _, _, rfl, rfl, p, cv, b, _, C, bnd, _, d, congrArg (fun z => [V.ref p, cv, V.ref b, V.int (room.fdiv (m : Int)), V.int z]) es, by omega, d5, by omega, Dp.tups t5 _ (noL_castD C) hC, t5.sq hb, ok, fun s v H6 k6 d6 hs hd dv => ?_⟩
              have hL6 := k6 L _ nLp hL
              have t6 := d5.tups k6
              refine ⟨ws, hL6, sz_lt (by rw [DpAll.length da, List.length_map]; omega), ss ++ [s], ws ++ [v], ?_, upd_same, ?_, fun x hx => ?_, (k5.trans k6).updN nLH, ?_⟩
              · rw [List.length_append, el] <;> rfl
              · rw [List.map_append]
                refine DpAll.append (DpAll.tups (t6.trans (Tups.updL hL6)) _ (noLAll_map ss) da) (.cons (Dp.tups (Tups.updL hL6) _ (noL_enc s) dv) .nil)
              · rcases List.mem_append.mp hx with hx | hx
                · exact hss x hx
                · rw [List.mem_singleton.mp hx]
                  exact ⟨hs, hd⟩
              · refine (d6.updL nLp).mono ?_
                rw [Nat.add_mul, Nat.one_mul]
                omega
            · rintro H5 ⟨ss, ws, el, hL, da, hss, k5, d5⟩
              have el' : ss.length = m := el
              have hib : m * bN d ≤ 3 * bN d := Nat.mul_le_mul_right _ (by omega)
              have d5' : Deck H5 p (c + 3 + m * bN d) := d5
              refine ⟨p, L, _, d + 1, ss, ws, rfl, d5', by omega, hL, da, by omega, by omega, hss, fun s v H6 k6 d6 hs _ hd dv => ?_⟩
              exact q s v H6 (k5.trans k6) (d6.mono (by omega)) hs (by omega) dv
end
end Ep

/-! 13. The law's own defs: leaves. -/
namespace Ep
open PySem PySem.Spec PyProof.Rows L2 SX
open C8 (Cal Met Mak Def cal0 met0 mak0 pe_c pe_mk pe_mt pe_mt0 fnBody fnScope fnArgs fnScope_by pe_gc pss_cut)
section
variable {P : Program} {w : World} {K : PySem.W.Frag} {mg : Str → Option Value} {base : Heap} {A : Ad}
/-! ### _law_leaf -/
abbrev sLeaf : Stmt := top 53
abbrev nLeaf : List Str := ["_law_deck_here", "_law_world_here", "_law_room", "_law_deep", "_law_cast", "_law_spare", "_law_way", "_law_turn", "_law_names_here", "_law_word"]
theorem scLeaf : FnScope nLeaf ["_law_deck_here", "_law_world_here", "_law_room", "_law_deep"] (fnScope sLeaf) := fnScope_by (by decide +kernel)
def spLeaf (K : PySem.W.Frag) : Sp := fun vs H Q _ => ∃ (p : Addr) (wv : V) (c : Nat) (C : Cast) (sp : List (List Nat)) (room : Int) (d : Nat), vs = [.ref p, wv, .int room, .int (d : Int)] ∧ 1 ≤ d ∧ d ≤ 4 ∧ Deck H p c ∧ c < 600000000 ∧ Dp K H wv (worldD C sp) ∧ WOk C sp ∧
  ∀ s v H', Keep p H H' → Deck H' p (c + 2000) → sOk s = true → w3 s = true → dep s ≤ d + 1 → Dp K H' v (enc s) → Q v H'
theorem WOk.cb {C : Cast} {sp bnd : List (List Nat)} (o : WOk C sp) (hb : ∀ z ∈ bnd, nameOk z = true) (bl : bnd.length ≤ 15) : CbOk C bnd := ⟨o.rows, o.places, o.numbers, hb, o.r1, o.rl, o.pl, o.nl, bl⟩
theorem bN_le : ∀ d, d ≤ 3 → bN d ≤ 1900 := by
  intro d h
  match d, h with
  | 0, _ => decide
  | 1, _ => decide
  | 2, _ => decide
  | 3, _ => decide
theorem two_of {sp : List (List Nat)} (h2 : 2 ≤ sp.length) (ok : ∀ z ∈ sp, nameOk z = true) {k : Nat} (hk : k < sp.length) :
    ∃ z0 z1, cutL (cutL sp (some (k : Int)) none ++ cutL sp none (some (k : Int))) none (some 2) = [z0, z1] ∧ nameOk z0 = true ∧ nameOk z1 = true := by
  rw [cutL_from, cutL_to, show ((2 : Int)) = ((2 : Nat) : Int) from rfl, cutL_to]
  have hl : (sp.drop k ++ sp.take k).length = sp.length := by
    rw [List.length_append, List.length_drop, List.length_take]
    omega
  have hm : ∀ z ∈ sp.drop k ++ sp.take k, nameOk z = true := fun z hz => by
    rcases List.mem_append.mp hz with h | h
    · exact ok z (List.mem_of_mem_drop h)
    · exact ok z (List.mem_of_mem_take h)
  generalize sp.drop k ++ sp.take k = l at hl hm
  match l, hl, hm with
  | [], hl, _ => exact absurd hl (by simp; omega)
  | [_], hl, _ => exact absurd hl (by simp; omega)
  | z0 :: z1 :: r, _, hm => exact ⟨z0, z1, rfl, hm z0 (List.mem_cons_self ..), hm z1 (List.mem_cons_of_mem _ (List.mem_cons_self ..))⟩
def zFive : List (List Nat) := (["most", "less", "same", "least", "more"] : List String).map wd
theorem zFive_ok : ∀ z ∈ zFive, nameOk z = true := by decide +kernel
theorem ok_leaf (T : Tx K mg A) (c_draw : Cal P w K mg base 1 "_law_draw" spDraw []) (c_spot : Cal P w K mg base 2 "_law_spot" (spSpot K) []) (c_atom : Cal P w K mg base 4 "_law_atom" (spAtom K) []) (c_body : Cal P w K mg base 8 "_law_body" (spBody K 4) []) (D : Dfn K mg "_law_leaf" sLeaf) :
    Cal P w K mg base 9 "_law_leaf" (spLeaf K) [] := by
  refine cal_of D scLeaf (fun _ _ _ _ _ _ us hl => match us, hl with | [_, _, _, _], _ => rfl) (fun vs H Q E h => ?_) (fun f cdv A outer s H vs Q E hr h => ?_)
  · obtain ⟨p, wv, c, C, sp, room, d, rfl, _⟩ := h
    rfl
  obtain ⟨p, wv, c, C, sp, room, d, rfl, l1, l4, dk, c1, hW, ok, q⟩ := h
  obtain ⟨wa, ca, sa, rfl, hw, hC, hS⟩ := dp_world hW
  refine ⟨_, (pss_cons
    (ps_asg (pv 1) (pg_tup rfl (pgs_cons (pg_name (i := 4) scLeaf.nd rfl (Or.inl rfl)) (pgs_cons (pg_name (i := 5) scLeaf.nd rfl (Or.inl rfl)) pgs_nil))))
    (pss_cons
    (ps_set (i := 6) scLeaf.nd rfl (Or.inl rfl) (pe_c c_draw hr (by decide) (by rfl) (pa_cons (pv 0) (pa_cons pe_int pa_nil))))
    (pss_cons
    (ps_set (i := 7) scLeaf.nd rfl (Or.inl rfl) (pe_c c_draw hr (by decide) (by rfl) (pa_cons (pv 0) (pa_cons (pe_callB call_len_seq (by rfl) T.len_ (by decide +kernel) (pa_cons (pv 5) pa_nil)) pa_nil))))
    (pss_cons
    (ps_set (i := 8) scLeaf.nd rfl (Or.inl rfl) (pe_slice sl_tupA (pe_op op_catA (pe_slice sl_tupA (pv 5) (po_some (pv 7)) po_none) (pe_slice sl_tupA (pv 5) po_none (po_some (pv 7)))) po_none (po_some pe_int)))
    (pss_cons
    (ps_if (pt_cmpR op_lt (pv 6) pe_int (nomark _)) (pss_one
    (ps_ret (pe_tup (pa_cons pe_str (pa_cons (pe_ix (ix_tupK (K := K)) (pv 8) pe_int (fun _ _ => rfl)) (pa_cons (pe_c c_body hr (by decide) (by rfl) (pa_cons (pv 0) (pa_cons (pv 4) (pa_cons (pe_slice sl_tupA (pv 8) po_none (po_some pe_int)) (pa_cons (pv 2) (pa_cons (pe_op op_sub (pv 3) pe_int) pa_nil)))))) pa_nil)))))) pss_nil)
    (pss_cons
    (ps_if (pt_cmpR op_lt (pv 6) pe_int (nomark _)) (pss_one
    (ps_ret (pe_tup (pa_cons pe_str (pa_cons (pe_ix (ix_tupK (K := K)) (pv 8) pe_int (fun _ _ => rfl)) (pa_cons (pe_ix (ix_tupK (K := K)) (pv 8) pe_int (fun _ _ => rfl)) (pa_cons (pe_c c_body hr (by decide) (by rfl) (pa_cons (pv 0) (pa_cons (pv 4) (pa_cons (pv 8) (pa_cons (pv 2) (pa_cons (pe_op op_sub (pv 3) pe_int) pa_nil)))))) pa_nil))))))) pss_nil)
    (pss_cons
    (ps_if (pt_cmpR op_eq (pv 6) pe_int (nomark _)) (pss_cons
    (ps_set (i := 9) scLeaf.nd rfl (Or.inl rfl) (pe_ix (ix_listK (K := K)) (pe_lst (pa_cons pe_str (pa_cons pe_str (pa_cons pe_str (pa_cons pe_str (pa_cons pe_str pa_nil)))))) (pe_c c_draw hr (by decide) (by rfl) (pa_cons (pv 0) (pa_cons pe_int pa_nil))) (fun _ _ => rfl)))
    (pss_one
    (ps_ret (pe_tup (pa_cons pe_str (pa_cons (pe_ix (ix_tupK (K := K)) (pe_ix (ix_tupK (K := K)) (pv 4) pe_int (fun _ _ => rfl)) (pe_c c_draw hr (by decide) (by rfl) (pa_cons (pv 0) (pa_cons (pe_callB call_len_seq (by rfl) T.len_ (by decide +kernel) (pa_cons (pe_ix (ix_tupK (K := K)) (pv 4) pe_int (fun _ _ => rfl)) pa_nil)) pa_nil))) (fun _ _ => rfl)) (pa_cons (pv 9) pa_nil))))))) pss_nil)
    (pss_cons
    (ps_if (pt_cmpR op_eq (pv 6) pe_int (nomark _)) (pss_one
    (ps_ret (pe_tup (pa_cons pe_str (pa_cons (pe_c c_spot hr (by decide) (by rfl) (pa_cons (pv 0) (pa_cons (pv 4) (pa_cons (pe_tup pa_nil) pa_nil)))) (pa_cons (pe_c c_spot hr (by decide) (by rfl) (pa_cons (pv 0) (pa_cons (pv 4) (pa_cons (pe_tup pa_nil) pa_nil)))) pa_nil)))))) pss_nil)
    (pss_one
    (ps_ret (pe_c c_atom hr (by decide) (by rfl) (pa_cons (pv 0) (pa_cons (pv 4) (pa_cons (pe_tup pa_nil) pa_nil)))))))))))))), ?_⟩
  have s2 := ok.s2
  have sl := ok.sl
  have lenS := strV_len sp
  refine ⟨_, rfl, wa, _, rfl, hw, rfl, _, _, rfl, _, _, rfl, rfl, ?_⟩
  refine ⟨_, rfl, p, 8, c, rfl, dk, by decide, by decide, by omega, fun way H1 k1 d1 w0 w1 => ?_⟩
  have t1 := dk.tups k1
  refine ⟨_, rfl, _, rfl, sa, _, rfl, .inr (t1.sq hS), p, _, _, rfl, d1, by omega, by omega, by omega, fun turn H2 k2 d2 u0 u1 => ?_⟩
  obtain ⟨kt, rfl⟩ : ∃ kt : Nat, turn = (kt : Int) := ⟨turn.toNat, by omega⟩
  have t2 := t1.trans (d1.tups k2)
  obtain ⟨z0, z1, e2, o0, o1⟩ := two_of s2 ok.spare (k := kt) (by omega)
  refine ⟨_, rfl, _, rfl, _, rfl, ?_⟩
  dsimp only [tNoPart]
  refine cut_use (t2.sq hS) fun q1 H3 a3 h3 => ⟨_, rfl, _, rfl, _, rfl, cut_use (Same.sqT a3 (t2.sq hS)) fun q2 H4 a4 h4 => ?_⟩
  rw [cutV_strs] at h3 h4
  refine cat_use (Same.sqT a4 h3) h4 ?_ fun q3 H5 a5 h5 => ?_
  · have e1 := cutL_len sp (some (kt : Int)) none
    have e2 := cutL_len sp none (some (kt : Int))
    rw [strV_len, strV_len]
    omega
  rw [strV_app] at h5
  refine ⟨2, rfl, cut_use h5 fun nq H6 a6 h6 => ?_⟩
  rw [cutV_strs, e2] at h6
  have S6 : Same H2 H6 := a3.trans (a4.trans (a5.trans a6))
  have K6 := (k1.trans k2).trans (Keep.of S6)
  have d6 : Deck H6 p (c + 2) := d2.same S6
  have t6 := dk.tups K6
  have hC6 := Dp.tups t6 _ (noL_castD C) hC
  clear h3 h4 h5
  obtain ⟨d, rfl⟩ : ∃ d', d = d' + 1 := ⟨d - 1, by omega⟩
  have bd := bN_le d (by omega)
  have es : ((d + 1 : Nat) : Int) - 1 = (d : Int) := by omega
  refine ⟨_, rfl, _, _, rfl, rfl, _, rfl, ?_⟩
  refine ite2 (fun e3 => ?_) (fun e3 => ?_)
  · -- each
    refine ⟨_, rfl, nq, _, 0, _, rfl, rfl, h6, rfl, _, rfl, _, rfl, _, rfl, 1, rfl, cut_use h6 fun bq H7 a7 h7 => ?_⟩
    rw [cutV_strs, show cutL [z0, z1] none (some 1) = [z0] from rfl] at h7
    refine ⟨_, rfl, _, rfl, _, _, rfl, rfl, p, .ref ca, bq, _, C, [z0], room, d, congrArg (fun z => [V.ref p, V.ref ca, V.ref bq, V.int room, V.int z]) es, by omega, d6.same a7, by omega, Dp.tups (Same.tups a7) _ (noL_castD C) hC6, h7, ok.cb (fun z hz => by rw [List.mem_singleton.mp hz]; exact o0) (by show 1 ≤ 15; decide), fun s v H8 k8 d8 hs hd da => ⟨sz_small (show 3 ≤ 16000000 by decide), fun t nt => ?_⟩⟩
    refine q (.ea z0 s) _ _ (K6.trans ((Keep.of a7).trans (k8.trans (Keep.of (same_new nt))))) ((d8.new nt).mono (by omega)) ?_ rfl (by simp only [dep]; omega) ?_
    · simp [sOk, o0, hs]
    · rw [enc]
      exact .tup (SqT.of upd_same) (.cons (.str _) (.cons (.str _) (.cons (Dp.tups (Tups.new nt) _ (noL_enc s) da) .nil)))
  refine ⟨_, rfl, _, _, rfl, rfl, _, rfl, ?_⟩
  refine ite2 (fun e4 => ?_) (fun e4 => ?_)
  · -- pairs
    refine ⟨_, rfl, nq, _, 0, _, rfl, rfl, h6, rfl, _, rfl, nq, _, 1, _, rfl, rfl, h6, rfl, _, rfl, _, rfl, _, rfl, _, rfl, _, rfl, _, _, rfl, rfl, p, .ref ca, nq, _, C, [z0, z1], room, d, congrArg (fun z => [V.ref p, V.ref ca, V.ref nq, V.int room, V.int z]) es, by omega, d6, by omega, hC6, h6, ok.cb (fun z hz => ?_) (by decide : 2 ≤ 15), fun s v H8 k8 d8 hs hd da => ⟨sz_small (show 4 ≤ 16000000 by decide), fun t nt => ?_⟩⟩
    · rcases List.mem_cons.mp hz with h | h
      · rw [h]
        exact o0
      · rw [List.mem_singleton.mp h]
        exact o1
    · refine q (.pa z0 z1 s) _ _ (K6.trans (k8.trans (Keep.of (same_new nt)))) ((d8.new nt).mono (by omega)) ?_ rfl (by simp only [dep]; omega) ?_
      · simp [sOk, o0, o1, hs]
      · rw [enc]
        exact .tup (SqT.of upd_same) (.cons (.str _) (.cons (.str _) (.cons (.str _) (.cons (Dp.tups (Tups.new nt) _ (noL_enc s) da) .nil))))
  refine ⟨_, rfl, rfl, _, rfl, ?_⟩
  refine ite2 (fun e5 => ?_) (fun e5 => ?_)
  · -- nexts
    obtain ⟨ca', ra, pa, na, eca, hc, hR, _, _⟩ := dp_cast hC6
    cases eca
    refine ⟨sz_small (show 5 ≤ 16000000 by decide), fun l nl => ?_⟩
    refine ⟨_, rfl, p, 5, _, rfl, d6.new nl, by decide, by decide, by omega, fun r7 H7 k7 d7 r0 r1 => ?_⟩
    obtain ⟨z, mz, ez⟩ := pickS (zs := zFive) r0 r1
    have K7 := K6.trans ((Keep.of (same_new nl)).trans k7)
    have t7 := (Tups.new nl).trans ((d6.new nl).tups k7)
    have hl7 := k7 l _ (d6.ne nl) upd_same
    have r1' := ok.r1
    have rl' := ok.rl
    have lenR := strV_len C.rows
    refine ⟨l, _, _, _, rfl, rfl, SqL.of hl7, ez, ?_⟩
    refine ⟨_, rfl, ca, _, 0, _, rfl, rfl, t7.sq hc, rfl, _, rfl, _, rfl, ca, _, 0, _, rfl, rfl, t7.sq hc, rfl, ra, _, rfl, .inr (t7.sq hR), p, _, _, rfl, d7, by omega, by omega, by omega, fun r8 H8 k8 d8 s0 s1 => ?_⟩
    obtain ⟨y, my, ey⟩ := pickS (zs := C.rows) s0 (by omega)
    have t8 := t7.trans (d7.tups k8)
    refine ⟨ra, _, _, _, rfl, rfl, t8.sq hR, ey, _, rfl, sz_small (show 3 ≤ 16000000 by decide), fun t nt => ?_⟩
    refine q (.pl .nexts y z) _ _ (K7.trans (k8.trans (Keep.of (same_new nt)))) ((d8.new nt).mono (by omega)) ?_ rfl (by simp [dep]) ?_
    · simp [sOk, ok.rows y my, zFive_ok z mz]
    · rw [enc]
      exact .tup (SqT.of upd_same) (.cons (.str _) (.cons (.str _) (.cons (.str _) .nil)))
  refine ⟨_, rfl, rfl, _, rfl, ?_⟩
  refine ite2 (fun e6 => ?_) (fun e6 => ?_)
  · -- next
    refine ⟨_, rfl, _, rfl, Nat.zero_le _, fun t1 n1 => ?_⟩
    have S7 := same_new (o := .tup []) n1
    refine ⟨p, .ref ca, t1, _, C, [], rfl, d6.same S7, by omega, Dp.tups (Same.tups S7) _ (noL_castD C) hC6, SqT.of upd_same, ok.cb (fun _ h => nomatch h) (by decide), fun z H8 k8 d8 hz => ?_⟩
    have t8 := (Same.tups S7).trans ((d6.same S7).tups k8)
    refine ⟨_, rfl, _, rfl, Nat.zero_le _, fun t2 n2 => ?_⟩
    have S9 := same_new (o := .tup []) n2
    refine ⟨p, .ref ca, t2, _, C, [], rfl, d8.same S9, by omega, Dp.tups (t8.trans (Same.tups S9)) _ (noL_castD C) hC6, SqT.of upd_same, ok.cb (fun _ h => nomatch h) (by decide), fun y H9 k9 d9 hy => ⟨sz_small (show 3 ≤ 16000000 by decide), fun t nt => ?_⟩⟩
    refine q (.pl .next z y) _ _ (K6.trans ((Keep.of S7).trans (k8.trans ((Keep.of S9).trans (k9.trans (Keep.of (same_new nt))))))) ((d9.new nt).mono (by omega)) ?_ rfl (by simp [dep]) ?_
    · simp [sOk, hz, hy]
    · rw [enc]
      exact .tup (SqT.of upd_same) (.cons (.str _) (.cons (.str _) (.cons (.str _) .nil)))
  · -- an atom
    refine ⟨_, rfl, _, rfl, Nat.zero_le _, fun t1 n1 => ?_⟩
    have S7 := same_new (o := .tup []) n1
    refine ⟨p, .ref ca, t1, _, C, [], rfl, d6.same S7, by omega, Dp.tups (Same.tups S7) _ (noL_castD C) hC6, SqT.of upd_same, ok.cb (fun _ h => nomatch h) (by decide), fun s v H8 k8 d8 hs h3 hd da => ?_⟩
    exact q s v H8 (K6.trans ((Keep.of S7).trans k8)) (d8.mono (by omega)) hs h3 (by omega) da
end
end Ep

/-! 14. The law's own defs: sayings drawn. -/
namespace Ep
open PySem PySem.Spec PyProof.Rows L2 SX
open C8 (Cal Met Mak Def cal0 met0 mak0 pe_c pe_mk pe_mt pe_mt0 fnBody fnScope fnArgs fnScope_by pe_gc pss_cut)
section
variable {P : Program} {w : World} {K : PySem.W.Frag} {mg : Str → Option Value} {base : Heap} {A : Ad}
def sN : Nat → Nat
  | 0 => 3000
  | d + 1 => 3 * sN d + 3000
theorem sN_ge : ∀ d, 3000 ≤ sN d
  | 0 => Nat.le_refl _
  | d + 1 => by
    show 3000 ≤ 3 * sN d + 3000
    omega
/-! ### _law_saying -/
abbrev sSaying : Stmt := top 54
abbrev nSaying : List Str := ["_law_deck_here", "_law_world_here", "_law_room", "_law_deep", "_law_way", "_law_many", "_law_k"]
theorem scSaying : FnScope nSaying ["_law_deck_here", "_law_world_here", "_law_room", "_law_deep"] (fnScope sSaying) := fnScope_by (by decide +kernel)
/-- for depths to n -/
def spSaying (K : PySem.W.Frag) (n : Nat) : Sp := fun vs H Q _ => ∃ (p : Addr) (wv : V) (c : Nat) (C : Cast) (sp : List (List Nat)) (room : Int) (d : Nat), vs = [.ref p, wv, .int room, .int (d : Int)] ∧ 1 ≤ d ∧ d ≤ 4 ∧ d ≤ n ∧ Deck H p c ∧ c + sN d < 500000000 ∧ Dp K H wv (worldD C sp) ∧ WOk C sp ∧
  ∀ s v H', Keep p H H' → Deck H' p (c + sN d) → sOk s = true → w3 s = true → dep s ≤ d + 1 → Dp K H' v (enc s) → Q v H'
theorem ok_saying (T : Tx K mg A) (c_draw : Cal P w K mg base 1 "_law_draw" spDraw []) (c_leaf : Cal P w K mg base 9 "_law_leaf" (spLeaf K) []) (c_joined : Cal P w K mg base 2 "_law_joined" (spJoined K) []) (D : Dfn K mg "_law_saying" sSaying) :
    ∀ n, Cal P w K mg base (9 + n) "_law_saying" (spSaying K n) []
  | 0 => cal_none (ps := ["_law_deck_here", "_law_world_here", "_law_room", "_law_deep"]) D (fun _ _ _ _ _ _ us hl => match us, hl with | [_, _, _, _], _ => rfl) (fun vs H Q E h => by
    obtain ⟨p, wv, c, C, sp, room, d, _, h1, _, h2, _⟩ := h
    omega)
  | n + 1 => by
    have c_saying := ok_saying T c_draw c_leaf c_joined D n
    refine cal_of D scSaying (fun _ _ _ _ _ _ us hl => match us, hl with | [_, _, _, _], _ => rfl) (fun vs H Q E h => ?_) (fun f cdv A outer s H vs Q E hr h => ?_)
    · obtain ⟨p, wv, c, C, sp, room, d, rfl, _⟩ := h
      rfl
    obtain ⟨p, wv, c, C, sp, room, d, rfl, l1, l4, ln, dk, c1, hW, ok, q⟩ := h
    have b30 := sN_ge d
    have hr4 : Room 9 _ := hr.mono (Nat.le_add_right 9 n)
    refine ⟨_, (pss_cons
    (ps_set (i := 4) scSaying.nd rfl (Or.inl rfl) (pe_c c_draw hr4 (by decide) (by rfl) (pa_cons (pv 0) (pa_cons pe_int pa_nil))))
    (pss_cons
    (ps_if (PW.pt (pw_or (pt_cmpR op_lt (pv 3) pe_int (nomark _)) (pw_or (pt_cmpR op_lt (pv 2) pe_int (nomark _)) (pw_or1 (pt_cmpR op_lt (pv 4) pe_int (nomark _)))))) (pss_one
    (ps_ret (pe_c c_leaf hr4 (by decide) (by rfl) (pa_cons (pv 0) (pa_cons (pv 1) (pa_cons (pv 2) (pa_cons (pv 3) pa_nil))))))) pss_nil)
    (pss_cons
    (ps_if (pt_cmpR op_eq (pv 4) pe_int (nomark _)) (pss_one
    (ps_ret (pe_tup (pa_cons pe_str (pa_cons (pe_c c_saying hr (Nat.le_refl _) (by rfl) (pa_cons (pv 0) (pa_cons (pv 1) (pa_cons (pv 2) (pa_cons (pe_op op_sub (pv 3) pe_int) pa_nil))))) pa_nil))))) pss_nil)
    (pss_cons
    (ps_set (i := 5) scSaying.nd rfl (Or.inr rfl) (pe_ix (ix_listK (K := K)) (pe_lst (pa_cons pe_int (pa_cons pe_int (pa_cons pe_int pa_nil)))) (pe_c c_draw hr4 (by decide) (by rfl) (pa_cons (pv 0) (pa_cons pe_int pa_nil))) (fun _ _ => rfl)))
    (pss_cut
    (ps_if (pt_cmpR op_lt (pv 2) pe_int (nomark _)) (pss_one
    (ps_set (i := 5) scSaying.nd rfl (Or.inr rfl) pe_int)) pss_nil)
    (pss_one
    (ps_ret (pe_c c_joined hr4 (by decide) (by rfl) (pa_cons (pv 0) (pa_cons (pe_lc (own := [("_law_k", 6)]) (g := gName 6) (tt := tYes) rfl scSaying.nd (pi_range1 rfl T.range_ (pa_cons (pv 5) pa_nil)) (blkOk_by (own := [("_law_k", 6)]) (N := nSaying) (sc := fnScope sSaying) (by decide +kernel)) (fun _ _ _ _ _ => pg_name (i := 6) scSaying.nd rfl (Or.inl rfl)) (fun _ _ _ _ _ => pts_nil) (fun _ _ _ _ _ => (pe_c c_saying hr (Nat.le_refl _) (by rfl) (pa_cons (pv 0) (pa_cons (pv 1) (pa_cons (pe_op op_fdivN (pv 2) (pv 5)) (pa_cons (pe_op op_sub (pv 3) pe_int) pa_nil))))))) pa_nil)))))))))), ?_⟩
    refine ⟨_, rfl, p, 8, c, rfl, dk, by decide, by decide, by omega, fun way H1 k1 d1 w0 w1 => ?_⟩
    have t1 := dk.tups k1
    have hW1 := Dp.tups t1 _ (noL_worldD C sp) hW
    dsimp only [gName, tSeq, tIfS]
    refine or2 (a := decide ((d : Int) < 2)) (b := decide (room < 2) || decide (way < 3)) (fun R' q' => ⟨_, rfl, _, _, rfl, rfl, _, rfl, q'⟩) (fun R' q' => or2 (a := decide (room < 2)) (b := decide (way < 3)) (fun R'' q'' => ⟨_, rfl, _, _, rfl, rfl, _, rfl, q''⟩) (fun R'' q'' => ⟨_, rfl, _, _, rfl, rfl, _, rfl, q''⟩) q') ?_
    refine ite2 (fun e => ?_) (fun e => ?_)
    · refine ⟨_, rfl, _, rfl, _, rfl, _, rfl, p, wv, _, C, sp, room, d, rfl, l1, l4, d1, by omega, hW1, ok, fun s v H2 k2 d2 hs h3 hd da => ?_⟩
      exact q s v H2 (k1.trans k2) (d2.mono (by omega)) hs h3 (by omega) da
    · have d2 : 2 ≤ d := by
        have : ¬ (d : Int) < 2 := fun z => e (by simp [z])
        omega
      obtain ⟨d, rfl⟩ : ∃ d', d = d' + 1 := ⟨d - 1, by omega⟩
      have bS : sN (d + 1) = 3 * sN d + 3000 := rfl
      have b30' := sN_ge d
      have es : ((d + 1 : Nat) : Int) - 1 = (d : Int) := by omega
      refine ⟨_, rfl, rfl, _, rfl, ?_⟩
      refine ite2 (fun e4 => ?_) (fun e4 => ?_)
      · refine ⟨_, rfl, _, rfl, _, rfl, _, rfl, _, _, rfl, rfl, p, wv, _, C, sp, room, d, congrArg (fun z => [V.ref p, wv, V.int room, V.int z]) es, by omega, by omega, by omega, d1, by omega, hW1, ok, fun s v H2 k2 d2 hs _ hd da => ⟨sz_small (show 2 ≤ 16000000 by decide), fun t nt => ?_⟩⟩
        refine q (.no s) _ _ (k1.trans (k2.trans (Keep.of (same_new nt)))) ((d2.new nt).mono (by omega)) (by simpa [sOk] using hs) rfl (by simp only [dep]; omega) ?_
        rw [enc]
        exact .tup (SqT.of upd_same) (.cons (.str _) (.cons (Dp.tups (Tups.new nt) _ (noL_enc s) da) .nil))
      · refine ⟨sz_small (show 3 ≤ 16000000 by decide), fun l nl => ?_⟩
        refine ⟨_, rfl, p, 3, _, rfl, d1.new nl, by decide, by decide, by omega, fun r3 H3 k3 d3 r0 r1 => ?_⟩
        obtain ⟨m, mm, em⟩ := pickN (ns := [2, 2, 3]) r0 r1
        have hm : 2 ≤ m ∧ m ≤ 3 := by
          have all : ∀ x ∈ ([2, 2, 3] : List Nat), 2 ≤ x ∧ x ≤ 3 := by decide
          exact all m mm
        refine ⟨l, _, _, _, rfl, rfl, SqL.of (k3 l _ (d1.ne nl) upd_same), em, ?_⟩
        have K3 := k1.trans ((Keep.of (same_new nl)).trans k3)
        refine ⟨fun σ' H' => H3 = H' ∧ ∃ m : Nat, σ' = [some (.ref p), some wv, some (.int room), some (.int ((d + 1 : Nat) : Int)), some (.int way), some (.int (m : Int)), none] ∧ 2 ≤ m ∧ m ≤ 3, ?_, ?_⟩
        · refine ⟨_, rfl, _, _, rfl, rfl, _, rfl, ?_⟩
          exact ite2 (fun _ => ⟨rfl, 2, rfl, by decide⟩) (fun _ => ⟨rfl, m, rfl, hm⟩)
        · rintro σ' H4 ⟨rfl, m, rfl, m2, m3⟩
          refine ⟨_, rfl, _, rfl, _, rfl, by omega, by omega, fun L nL => ?_⟩
          have nLp := d3.ne nL
          have nLH := K3.free nL nLp
          refine lc_range (lo := 0) (n := ((m : Nat) : Int).toNat) (fun i H' => ∃ (ss : List Say) (ws : List V), ss.length = i ∧ H' L = some (.lst ws) ∧ DpAll K H' ws (ss.map enc) ∧ (∀ s ∈ ss, sOk s = true ∧ dep s ≤ d + 1) ∧ Keep p H H' ∧ Deck H' p (c + 2 + i * sN d))
            ⟨[], [], rfl, upd_same, .nil, (fun _ h => nomatch h), K3.updN nLH, (d3.new nL).mono (by omega)⟩ ?_ ?_
          · rintro i H5 hi ⟨ss, ws, el, hL, da, hss, k5, d5⟩
            have hi3 : i < 3 := by omega
            have t5 := dk.tups k5
            have hib : i * sN d ≤ 2 * sN d := Nat.mul_le_mul_right _ (by omega)
            refine ⟨rfl, _, rfl, _, rfl, _, rfl, _, rfl, _, _, rfl, rfl, ⟨by omega, by omega⟩, _, rfl, _, _, rfl, rfl, p, wv, _, C, sp, _, d, congrArg (fun z => [V.ref p, wv, V.int (room.fdiv (m : Int)), V.int z]) es, by omega, by omega, by omega, d5, by omega, Dp.tups t5 _ (noL_worldD C sp) hW, ok, fun s v H6 k6 d6 hs _ hd dv => ?_⟩
            have hL6 := k6 L _ nLp hL
            have t6 := d5.tups k6
            refine ⟨ws, hL6, sz_lt (by rw [DpAll.length da, List.length_map]; omega), ss ++ [s], ws ++ [v], ?_, upd_same, ?_, fun x hx => ?_, (k5.trans k6).updN nLH, ?_⟩
            · rw [List.length_append, el] <;> rfl
            · rw [List.map_append]
              refine DpAll.append (DpAll.tups (t6.trans (Tups.updL hL6)) _ (noLAll_map ss) da) (.cons (Dp.tups (Tups.updL hL6) _ (noL_enc s) dv) .nil)
            · rcases List.mem_append.mp hx with hx | hx
              · exact hss x hx
              · rw [List.mem_singleton.mp hx]
                exact ⟨hs, hd⟩
            · refine (d6.updL nLp).mono ?_
              rw [Nat.add_mul, Nat.one_mul]
              omega
          · rintro H5 ⟨ss, ws, el, hL, da, hss, k5, d5⟩
            have el' : ss.length = m := el
            have hib : m * sN d ≤ 3 * sN d := Nat.mul_le_mul_right _ (by omega)
            have d5' : Deck H5 p (c + 2 + m * sN d) := d5
            refine ⟨p, L, _, d + 1, ss, ws, rfl, d5', by omega, hL, da, by omega, by omega, hss, fun s v H6 k6 d6 hs h3 hd dv => ?_⟩
            exact q s v H6 (k5.trans k6) (d6.mono (by omega)) hs h3 (by omega) dv
end
end Ep

/-! 15. The law's own defs: one thing otherwise. -/
namespace Ep
open PySem PySem.Spec PyProof.Rows L2 SX
open C8 (Cal Met Mak Def cal0 met0 mak0 pe_c pe_mk pe_mt pe_mt0 fnBody fnScope fnArgs fnScope_by pe_gc pss_cut)
theorem in_new {K : PySem.W.Frag} {H : Hp} {Q : VK} {t : Addr} {z : Str} {xs : List V} (b : Bool) (e : inV (.str z) xs = b) (hf : xs.all flatV = true) (q : Q (.bl b) (upd H t (.tup xs))) : rIn K false (.str z) (.ref t) (upd H t (.tup xs)) Q := by
  refine ⟨t, xs, rfl, .inr (SqT.of upd_same), rfl, hf, ?_⟩
  rw [e]
  exact q
theorem pick_use {K : PySem.W.Frag} {p l : Addr} {c : Nat} {vs : List V} {r : Int} {H H' : Hp} {Q : VK} (np : l ≠ p) (hl : H l = some (.lst vs)) (k : Keep p H H') (r0 : 0 ≤ r) (r1 : r < (vs.length : Int)) (q : ∀ v ∈ vs, Q v H') : rIxL K (.ref l) (.int r) H' Q := by
  obtain ⟨v, mv, ev⟩ := pick r0 r1
  exact ⟨l, vs, r, v, rfl, rfl, SqL.of (k l _ np hl), ev, q v mv⟩
theorem cw_in4 (k : Cw) : inV (.str (Str.ofString k.s)) [.str "most", .str "less", .str "same", .str "unlike"] = true := by cases k <;> decide +kernel
theorem pw_in4 (k : Pw) : inV (.str (Str.ofString k.s)) [.str "most", .str "less", .str "same", .str "unlike"] = false := by cases k <;> decide +kernel
theorem jw_in4 (k : Bool) : inV (.str (Str.ofString (jw k))) [.str "most", .str "less", .str "same", .str "unlike"] = false := by cases k <;> decide +kernel
theorem pw_in3 {k : Pw} (h : k ≠ .nexts) : inV (.str (Str.ofString k.s)) [.str "ahead", .str "here", .str "next"] = true := by
  cases k with
  | nexts => exact absurd rfl h
  | _ => decide +kernel
theorem jw_in3 (k : Bool) : inV (.str (Str.ofString (jw k))) [.str "ahead", .str "here", .str "next"] = false := by cases k <;> decide +kernel
theorem jw_in2 (k : Bool) : inV (.str (Str.ofString (jw k))) [.str "and", .str "or"] = true := by cases k <;> decide +kernel
theorem jw_not (k : Bool) : decide (V.str (Str.ofString (jw k)) = V.str (Str.ofString "not")) = false := by cases k <;> decide +kernel
theorem backV_small : ∀ ws : List V, ws.length ≤ 3 → backV ws none none = ws.reverse
  | [], _ => rfl
  | [a], _ => by
    have e : Builtin.Slice.slicePlaces (Builtin.Slice.sliceAdjust none none (-1) ((([a] : List V).length : Nat) : Int)).1 (Builtin.Slice.sliceAdjust none none (-1) ((([a] : List V).length : Nat) : Int)).2 (-1) = 1 := by
      show Builtin.Slice.slicePlaces 0 (-1) (-1) = 1
      decide
    unfold backV
    rw [e]
    rfl
  | [a, b], _ => by
    have e : Builtin.Slice.slicePlaces (Builtin.Slice.sliceAdjust none none (-1) ((([a, b] : List V).length : Nat) : Int)).1 (Builtin.Slice.sliceAdjust none none (-1) ((([a, b] : List V).length : Nat) : Int)).2 (-1) = 2 := by
      show Builtin.Slice.slicePlaces 1 (-1) (-1) = 2
      decide
    unfold backV
    rw [e]
    rfl
  | [a, b, c], _ => by
    have e : Builtin.Slice.slicePlaces (Builtin.Slice.sliceAdjust none none (-1) ((([a, b, c] : List V).length : Nat) : Int)).1 (Builtin.Slice.sliceAdjust none none (-1) ((([a, b, c] : List V).length : Nat) : Int)).2 (-1) = 3 := by
      show Builtin.Slice.slicePlaces 2 (-1) (-1) = 3
      decide
    unfold backV
    rw [e]
    rfl
  | _ :: _ :: _ :: _ :: _, h => absurd h (by simp)
theorem jw_at (k : Bool) : atI [V.str (Str.ofString "or"), V.str (Str.ofString "and")] (if decide (V.str (Str.ofString (jw k)) = V.str (Str.ofString "or")) = true then 1 else 0) = some (V.str (Str.ofString (jw !k))) := by cases k <;> decide +kernel
theorem backV_two (a b c : V) : backV [a, b, c] (some 2) (some 0) = [c, b] := by
  have e : Builtin.Slice.slicePlaces (Builtin.Slice.sliceAdjust (some 2) (some 0) (-1) ((([a, b, c] : List V).length : Nat) : Int)).1 (Builtin.Slice.sliceAdjust (some 2) (some 0) (-1) ((([a, b, c] : List V).length : Nat) : Int)).2 (-1) = 2 := by
    show Builtin.Slice.slicePlaces 2 0 (-1) = 2
    decide
  unfold backV
  rw [e]
  rfl
theorem DpAll.rev {K : PySem.W.Frag} {H : Hp} : ∀ {vs : List V} {ds : List PyData}, DpAll K H vs ds → DpAll K H vs.reverse ds.reverse
  | _, _, .nil => .nil
  | _, _, .cons (v := v) (vs := vs) (d := d) (ds := ds) h t => by
    rw [List.reverse_cons, List.reverse_cons]
    exact DpAll.append (DpAll.rev t) (.cons h .nil)
section
variable {P : Program} {w : World} {K : PySem.W.Frag} {mg : Str → Option Value} {base : Heap} {A : Ad}
abbrev sOther : Stmt := top 55
abbrev nOther : List Str := ["_law_deck_here", "_law_world_here", "_law_saying_here", "_law_word", "_law_other_here", "_law_some"]
theorem scOther : FnScope nOther ["_law_deck_here", "_law_world_here", "_law_saying_here"] (fnScope sOther) := fnScope_by (by decide +kernel)
def spOther (K : PySem.W.Frag) : Sp := fun vs H Q _ => ∃ (p : Addr) (wv sv : V) (c : Nat) (C : Cast) (sp : List (List Nat)) (s : Say), vs = [.ref p, wv, sv] ∧ Deck H p c ∧ c < 400000000 ∧ Dp K H wv (worldD C sp) ∧ WOk C sp ∧ Dp K H sv (enc s) ∧ sOk s = true ∧ w3 s = true ∧
  ∀ s' v H', Keep p H H' → Deck H' p (c + 20) → sOk s' = true → dep s' ≤ dep s + 1 → Dp K H' v (enc s') → Q v H'
theorem ok_other (T : Tx K mg A) (c_draw : Cal P w K mg base 1 "_law_draw" spDraw []) (c_sum : Cal P w K mg base 3 "_law_sum" (spSum K) []) (D : Dfn K mg "_law_other" sOther) : Cal P w K mg base 4 "_law_other" (spOther K) [] := by
  refine cal_of D scOther (fun _ _ _ _ _ _ us hl => match us, hl with | [_, _, _], _ => rfl) (fun vs H Q E h => ?_) (fun f cdv A outer s0 H vs Q E hr h => ?_)
  · obtain ⟨p, wv, sv, c, C, sp, s, rfl, _⟩ := h
    rfl
  obtain ⟨p, wv, sv, c, C, sp, s, rfl, dk, c1, hW, ok, hD, hs0, hw3, q⟩ := h
  obtain ⟨wa, ca, spa, rfl, hw, hC, _⟩ := dp_world hW
  refine ⟨_, (pss_cons
    (ps_set (i := 3) scOther.nd rfl (Or.inl rfl) (pe_ix (ix_tupK (K := K)) (pv 2) pe_int (fun _ _ => rfl)))
    (pss_cons
    (ps_if (pt_cmpR op_in_seq (pv 3) (pe_tup (pa_cons pe_str (pa_cons pe_str (pa_cons pe_str (pa_cons pe_str pa_nil))))) (by rfl)) (pss_cons
    (ps_set (i := 4) scOther.nd rfl (Or.inl rfl) (pe_c c_sum hr (by decide) (by rfl) (pa_cons (pv 0) (pa_cons (pe_ix (ix_tupK (K := K)) (pv 1) pe_int (fun _ _ => rfl)) (pa_cons (pe_tup pa_nil) pa_nil)))))
    (pss_one
    (ps_ret (pe_ix (ix_listK (K := K)) (pe_lst (pa_cons (pe_tup (pa_cons (pv 3) (pa_cons (pe_ix (ix_tupK (K := K)) (pv 2) pe_int (fun _ _ => rfl)) (pa_cons (pe_ix (ix_tupK (K := K)) (pv 2) pe_int (fun _ _ => rfl)) pa_nil)))) (pa_cons (pe_tup (pa_cons (pv 3) (pa_cons (pv 4) (pa_cons (pe_ix (ix_tupK (K := K)) (pv 2) pe_int (fun _ _ => rfl)) pa_nil)))) (pa_cons (pe_op op_catA (pe_tup (pa_cons pe_str pa_nil)) (pe_slice sl_tupA (pv 2) (po_some pe_int) po_none)) pa_nil)))) (pe_c c_draw hr (by decide) (by rfl) (pa_cons (pv 0) (pa_cons pe_int pa_nil))) (fun _ _ => rfl))))) pss_nil)
    (pss_cons
    (ps_if (pt_cmpR op_in_seq (pv 3) (pe_tup (pa_cons pe_str (pa_cons pe_str (pa_cons pe_str pa_nil)))) (by rfl)) (pss_one
    (ps_ret (pe_ix (ix_listK (K := K)) (pe_lst (pa_cons (pe_op op_catA (pe_tup (pa_cons (pv 3) pa_nil)) (pe_stepT (pv 2) (po_some pe_int) (po_some pe_int))) (pa_cons (pe_op op_catA (pe_tup (pa_cons pe_str pa_nil)) (pe_slice sl_tupA (pv 2) (po_some pe_int) po_none)) pa_nil))) (pe_c c_draw hr (by decide) (by rfl) (pa_cons (pv 0) (pa_cons pe_int pa_nil))) (fun _ _ => rfl)))) pss_nil)
    (pss_cons
    (ps_if (pt_cmpR op_eq (pv 3) pe_str (nomark _)) (pss_one
    (ps_ret (pe_ix (ix_listK (K := K)) (pe_lst (pa_cons (pe_ix (ix_tupK (K := K)) (pv 2) pe_int (fun _ _ => rfl)) (pa_cons (pe_tup (pa_cons pe_str (pa_cons (pv 2) pa_nil))) pa_nil))) (pe_c c_draw hr (by decide) (by rfl) (pa_cons (pv 0) (pa_cons pe_int pa_nil))) (fun _ _ => rfl)))) pss_nil)
    (pss_cons
    (ps_if (pt_cmpR op_in_seq (pv 3) (pe_tup (pa_cons pe_str (pa_cons pe_str pa_nil))) (by rfl)) (pss_cons
    (ps_set (i := 5) scOther.nd rfl (Or.inl rfl) (pe_lst (pa_cons (pe_tup (pa_cons (pv 3) (pa_cons (pe_op op_catA (pe_ix (ix_tupK (K := K)) (pv 2) pe_int (fun _ _ => rfl)) (pe_tup (pa_cons (pe_tup (pa_cons pe_str (pa_cons (pe_tup pa_nil) pa_nil))) pa_nil))) pa_nil))) (pa_cons (pe_tup (pa_cons (pe_ix (ix_listK (K := K)) (pe_lst (pa_cons pe_str (pa_cons pe_str pa_nil))) (pe_callTy call_int1 (by rfl) T.int_ (by decide +kernel) (pa_cons (pe_cmpR op_eq (pv 3) pe_str (nomark _)) pa_nil)) (fun _ _ => rfl)) (pa_cons (pe_ix (ix_tupK (K := K)) (pv 2) pe_int (fun _ _ => rfl)) pa_nil))) pa_nil))))
    (pss_one
    (ps_ret (pe_ix (ix_listK (K := K)) (pe_op op_cat (pv 5) (pe_lst (pa_cons (pe_tup (pa_cons (pv 3) (pa_cons (pe_stepT (pe_ix (ix_tupK (K := K)) (pv 2) pe_int (fun _ _ => rfl)) po_none po_none) pa_nil))) pa_nil))) (pe_c c_draw hr (by decide) (by rfl) (pa_cons (pv 0) (pa_cons pe_int pa_nil))) (fun _ _ => rfl))))) pss_nil)
    (pss_cons
    (ps_if (pt_cmpR op_eq (pv 3) pe_str (nomark _)) (pss_one
    (ps_ret (pe_ix (ix_listK (K := K)) (pe_lst (pa_cons (pe_tup (pa_cons pe_str (pa_cons (pe_ix (ix_tupK (K := K)) (pv 2) pe_int (fun _ _ => rfl)) (pa_cons (pe_ix (ix_tupK (K := K)) (pv 2) pe_int (fun _ _ => rfl)) pa_nil)))) (pa_cons (pe_tup (pa_cons pe_str (pa_cons (pe_slice sl_tupA (pv 2) (po_some pe_int) po_none) pa_nil))) pa_nil))) (pe_c c_draw hr (by decide) (by rfl) (pa_cons (pv 0) (pa_cons pe_int pa_nil))) (fun _ _ => rfl)))) pss_nil)
    (pss_cons
    (ps_if (pt_cmpR op_eq (pv 3) pe_str (nomark _)) (pss_one
    (ps_ret (pe_tup (pa_cons pe_str (pa_cons (pe_ix (ix_tupK (K := K)) (pv 2) pe_int (fun _ _ => rfl)) (pa_cons (pe_ix (ix_listK (K := K)) (pe_lst (pa_cons pe_str (pa_cons pe_str (pa_cons pe_str (pa_cons pe_str (pa_cons pe_str pa_nil)))))) (pe_c c_draw hr (by decide) (by rfl) (pa_cons (pv 0) (pa_cons pe_int pa_nil))) (fun _ _ => rfl)) pa_nil)))))) pss_nil)
    (pss_one
    (ps_ret (pe_op op_catA (pe_slice sl_tupA (pv 2) po_none (po_some (pe_un un_neg pe_int))) (pe_tup (pa_cons (pe_tup (pa_cons pe_str (pa_cons (pe_ix (ix_tupK (K := K)) (pv 2) (pe_un un_neg pe_int) (fun _ _ => rfl)) pa_nil))) pa_nil)))))))))))), ?_⟩
  cases s with
  | cmp k x y =>
    rw [enc] at hD
    obtain ⟨sa, xs, rfl, hs, da⟩ := dp_tup hD
    obtain ⟨v0, v1, v2, rfl, h0, h1, h2⟩ := dpa3 da
    rw [dp_str h0] at hs
    have hok : mOk x = true ∧ mOk y = true := by simpa [sOk] using hs0
    refine ⟨_, rfl, sa, _, 0, _, rfl, rfl, hs, rfl, _, rfl, sz_small (show 4 ≤ 16000000 by decide), fun t1 n1 => in_new true (cw_in4 k) rfl ⟨_, rfl, iteT ?_⟩⟩
    have S1 := same_new (o := .tup [.str "most", .str "less", .str "same", .str "unlike"]) n1
    refine ⟨_, rfl, _, rfl, wa, _, 0, _, rfl, rfl, Same.sqT S1 hw, rfl, Nat.zero_le _, fun t2 n2 => ?_⟩
    have S2 := S1.trans (same_new (o := .tup []) n2)
    refine ⟨p, .ref ca, t2, c, C, [], rfl, dk.same S2, by omega, Dp.tups (Same.tups S2) _ (noL_castD C) hC, SqT.of upd_same, ok.cb (fun _ h => nomatch h) (by decide), fun a va H3 k3 d3 ha hda => ?_⟩
    have K3 := (Keep.of (p := p) S2).trans k3
    have t3 := dk.tups K3
    have hs3 := t3.sq hs
    have h13 := Dp.tups t3 _ (noL_encM x) h1
    have h23 := Dp.tups t3 _ (noL_encM y) h2
    refine ⟨_, rfl, _, rfl, sa, _, 2, _, rfl, rfl, hs3, rfl, _, rfl, sa, _, 1, _, rfl, rfl, hs3, rfl, sz_small (show 3 ≤ 16000000 by decide), fun u1 m1 => ?_⟩
    have a1 := same_new (o := .tup [V.str (S (wd k.s)), v2, v1]) m1
    refine ⟨_, rfl, _, rfl, _, rfl, sa, _, 2, _, rfl, rfl, Same.sqT a1 hs3, rfl, sz_small (show 3 ≤ 16000000 by decide), fun u2 m2 => ?_⟩
    have a2 := same_new (o := .tup [V.str (S (wd k.s)), va, v2]) m2
    refine ⟨sz_small (show 1 ≤ 16000000 by decide), fun u3 m3 => ⟨_, rfl, 1, rfl, ?_⟩⟩
    have a3 := same_new (o := .tup [V.str "less"]) m3
    dsimp only [tNoPart]
    refine cut_use (Same.sqT a3 (Same.sqT a2 (Same.sqT a1 hs3))) fun q1 H4 a4 h4 => cat_use (Same.sqT a4 (SqT.of upd_same)) h4 (by show 1 + 2 ≤ 16000000; decide) fun q2 H5 a5 h5 => ⟨sz_small (show 3 ≤ 16000000 by decide), fun l nl => ?_⟩
    have h5 : SqT K H5 q2 [.str "less", v1, v2] := h5
    have SS := a1.trans (a2.trans (a3.trans (a4.trans a5)))
    have d5 := d3.same SS
    have S6 := same_new (o := .lst [V.ref u1, V.ref u2, V.ref q2]) nl
    refine ⟨_, rfl, p, 3, _, rfl, d5.new nl, by decide, by decide, by omega, fun r H6 k6 d6 r0 r1 => pick_use (c := 0) (vs := [V.ref u1, V.ref u2, V.ref q2]) (d5.ne nl) upd_same k6 r0 r1 fun v mv => ?_⟩
    have KK := K3.trans ((Keep.of (SS.trans S6)).trans k6)
    have t6 : Tups H3 H6 := (Same.tups (SS.trans S6)).trans ((d5.new nl).tups k6)
    have g1 := Dp.tups t6 _ (noL_encM x) h13
    have g2 := Dp.tups t6 _ (noL_encM y) h23
    have ga := Dp.tups t6 _ (noL_encM a) hda
    have D6 : Deck H6 p (c + 20) := d6.mono (by omega)
    rcases List.mem_cons.mp mv with rfl | mv
    · refine q (.cmp k y x) _ _ KK D6 (by simp [sOk, hok.1, hok.2]) (by simp [dep]) ?_
      rw [enc]
      exact .tup (((d5.new nl).tups k6).sq (Same.sqT S6 (Same.sqT a5 (Same.sqT a4 (Same.sqT a3 (Same.sqT a2 (SqT.of upd_same))))))) (.cons (.str _) (.cons g2 (.cons g1 .nil)))
    rcases List.mem_cons.mp mv with rfl | mv
    · refine q (.cmp k a y) _ _ KK D6 (by simp [sOk, ha, hok.2]) (by simp [dep]) ?_
      rw [enc]
      exact .tup (((d5.new nl).tups k6).sq (Same.sqT S6 (Same.sqT a5 (Same.sqT a4 (Same.sqT a3 (SqT.of upd_same)))))) (.cons (.str _) (.cons ga (.cons g2 .nil)))
    · rw [List.mem_singleton.mp mv]
      refine q (.cmp .less x y) _ _ KK D6 (by simp [sOk, hok.1, hok.2]) (by simp [dep]) ?_
      rw [enc]
      exact .tup (((d5.new nl).tups k6).sq (Same.sqT S6 h5)) (.cons (.str _) (.cons g1 (.cons g2 .nil)))
  | pl k y z =>
    rw [enc] at hD
    obtain ⟨sa, xs, rfl, hs, da⟩ := dp_tup hD
    obtain ⟨v0, v1, v2, rfl, h0, h1, h2⟩ := dpa3 da
    rw [dp_str h0, dp_str h1, dp_str h2] at hs
    have hok : nameOk y = true ∧ nameOk z = true := by simpa [sOk] using hs0
    refine ⟨_, rfl, sa, _, 0, _, rfl, rfl, hs, rfl, _, rfl, sz_small (show 4 ≤ 16000000 by decide), fun t1 n1 => in_new false (pw_in4 k) rfl ⟨_, rfl, iteF ?_⟩⟩
    have S1 := same_new (o := .tup [.str "most", .str "less", .str "same", .str "unlike"]) n1
    refine ⟨_, rfl, sz_small (show 3 ≤ 16000000 by decide), fun t2 n2 => ?_⟩
    have S2 := S1.trans (same_new (o := .tup [.str "ahead", .str "here", .str "next"]) n2)
    by_cases hk : k = .nexts
    · subst hk
      refine in_new false (by decide +kernel) rfl ⟨_, rfl, iteF ?_⟩
      refine ⟨_, rfl, rfl, _, rfl, iteF ⟨_, rfl, sz_small (show 2 ≤ 16000000 by decide), fun t3 n3 => in_new false (by decide +kernel) rfl ⟨_, rfl, iteF ?_⟩⟩⟩
      have S3 := S2.trans (same_new (o := .tup [.str "and", .str "or"]) n3)
      refine ⟨_, rfl, rfl, _, rfl, iteF ⟨_, rfl, rfl, _, rfl, iteT ?_⟩⟩
      refine ⟨_, rfl, sa, _, 1, _, rfl, rfl, Same.sqT S3 hs, rfl, sz_small (show 5 ≤ 16000000 by decide), fun l nl => ?_⟩
      have S4 := S3.trans (same_new (o := .lst [.str "most", .str "less", .str "same", .str "least", .str "more"]) nl)
      refine ⟨_, rfl, p, 5, c, rfl, dk.same S4, by decide, by decide, by omega, fun r H6 k6 d6 r0 r1 => ?_⟩
      obtain ⟨u, mu, eu⟩ := pickS (zs := zFive) r0 r1
      refine ⟨l, _, _, _, rfl, rfl, SqL.of (k6 l _ ((dk.same S3).ne nl) upd_same), eu, sz_small (show 3 ≤ 16000000 by decide), fun t nt => ?_⟩
      refine q (.pl .nexts y u) _ _ ((Keep.of S4).trans (k6.trans (Keep.of (same_new nt)))) ((d6.new nt).mono (by omega)) ?_ (by simp [dep]) ?_
      · simp [sOk, hok.1, zFive_ok u mu]
      · rw [enc]
        exact .tup (SqT.of upd_same) (.cons (.str _) (.cons (.str _) (.cons (.str _) .nil)))
    · refine in_new true (pw_in3 hk) rfl ⟨_, rfl, iteT ?_⟩
      have hs2 := Same.sqT S2 hs
      refine ⟨_, rfl, sz_small (show 1 ≤ 16000000 by decide), fun u1 m1 => ?_⟩
      have a1 := same_new (o := .tup [V.str (S (wd k.s))]) m1
      refine ⟨_, rfl, 2, rfl, 0, rfl, sa, _, rfl, Same.sqT a1 hs2, ?_⟩
      rw [backV_two]
      refine ⟨sz_small (show 2 ≤ 16000000 by decide), fun u2 m2 => ?_⟩
      have a2 := same_new (o := .tup [V.str (S z), V.str (S y)]) m2
      refine cat_use (Same.sqT a2 (SqT.of upd_same)) (SqT.of upd_same) (by show 1 + 2 ≤ 16000000; decide) fun q1 H3 a3 h3 => ?_
      refine ⟨sz_small (show 1 ≤ 16000000 by decide), fun u3 m3 => ⟨_, rfl, 1, rfl, ?_⟩⟩
      have a4 := same_new (o := .tup [V.str "here"]) m3
      dsimp only [tNoPart]
      refine cut_use (Same.sqT a4 (Same.sqT a3 (Same.sqT a2 (Same.sqT a1 hs2)))) fun q2 H4 a5 h4 => cat_use (Same.sqT a5 (SqT.of upd_same)) h4 (by show 1 + 2 ≤ 16000000; decide) fun q3 H5 a6 h5 => ⟨sz_small (show 2 ≤ 16000000 by decide), fun l nl => ?_⟩
      have h5 : SqT K H5 q3 [.str "here", .str (S y), .str (S z)] := h5
      have h3 : SqT K H3 q1 [.str (S (wd k.s)), .str (S z), .str (S y)] := h3
      have SS := S2.trans (a1.trans (a2.trans (a3.trans (a4.trans (a5.trans a6)))))
      have d5 := dk.same SS
      have S6 := same_new (o := .lst [V.ref q1, V.ref q3]) nl
      refine ⟨_, rfl, p, 2, _, rfl, d5.new nl, by decide, by decide, by omega, fun r H6 k6 d6 r0 r1 => pick_use (c := 0) (vs := [V.ref q1, V.ref q3]) (d5.ne nl) upd_same k6 r0 r1 fun v mv => ?_⟩
      have KK := (Keep.of (p := p) (SS.trans S6)).trans k6
      have t6 := (d5.new nl).tups k6
      have D6 : Deck H6 p (c + 20) := d6.mono (by omega)
      rcases List.mem_cons.mp mv with rfl | mv
      · refine q (.pl k z y) _ _ KK D6 (by simp [sOk, hok.1, hok.2]) (by simp [dep]) ?_
        rw [enc]
        exact .tup (t6.sq (Same.sqT S6 (Same.sqT a6 (Same.sqT a5 (Same.sqT a4 h3))))) (.cons (.str _) (.cons (.str _) (.cons (.str _) .nil)))
      · rw [List.mem_singleton.mp mv]
        refine q (.pl .here y z) _ _ KK D6 (by simp [sOk, hok.1, hok.2]) (by simp [dep]) ?_
        rw [enc]
        exact .tup (t6.sq (Same.sqT S6 h5)) (.cons (.str _) (.cons (.str _) (.cons (.str _) .nil)))
  | no s =>
    have hD0 := hD
    rw [enc] at hD
    obtain ⟨sa, xs, rfl, hs, da⟩ := dp_tup hD
    obtain ⟨v0, v1, rfl, h0, h1⟩ := dpa2 da
    rw [dp_str h0] at hs
    have hok : sOk s = true := by simpa [sOk] using hs0
    refine ⟨_, rfl, sa, _, 0, _, rfl, rfl, hs, rfl, _, rfl, sz_small (show 4 ≤ 16000000 by decide), fun t1 n1 => in_new false (by decide +kernel) rfl ⟨_, rfl, iteF ?_⟩⟩
    have S1 := same_new (o := .tup [.str "most", .str "less", .str "same", .str "unlike"]) n1
    refine ⟨_, rfl, sz_small (show 3 ≤ 16000000 by decide), fun t2 n2 => in_new false (by decide +kernel) rfl ⟨_, rfl, iteF ?_⟩⟩
    have S2 := S1.trans (same_new (o := .tup [.str "ahead", .str "here", .str "next"]) n2)
    refine ⟨_, rfl, rfl, _, rfl, iteT ?_⟩
    refine ⟨_, rfl, sa, _, 1, _, rfl, rfl, Same.sqT S2 hs, rfl, _, rfl, sz_small (show 2 ≤ 16000000 by decide), fun u1 m1 => ⟨sz_small (show 2 ≤ 16000000 by decide), fun l nl => ?_⟩⟩
    have S3 := S2.trans (same_new (o := .tup [V.str "not", V.ref sa]) m1)
    have d3 := dk.same S3
    have S6 := same_new (o := .lst [v1, V.ref u1]) nl
    refine ⟨_, rfl, p, 2, _, rfl, d3.new nl, by decide, by decide, by omega, fun r H6 k6 d6 r0 r1 => pick_use (c := 0) (vs := [v1, V.ref u1]) (d3.ne nl) upd_same k6 r0 r1 fun v mv => ?_⟩
    have KK := (Keep.of (p := p) (S3.trans S6)).trans k6
    have t6 := (d3.new nl).tups k6
    have D6 : Deck H6 p (c + 20) := d6.mono (by omega)
    have T6 := dk.tups KK
    rcases List.mem_cons.mp mv with rfl | mv
    · exact q s _ _ KK D6 hok (by simp only [dep]; omega) (Dp.tups T6 _ (noL_enc s) h1)
    · rw [List.mem_singleton.mp mv]
      refine q (.no (.no s)) _ _ KK D6 (by simpa [sOk] using hok) (by simp [dep]) ?_
      rw [enc]
      exact .tup (t6.sq (Same.sqT S6 (SqT.of upd_same))) (.cons (.str _) (.cons (Dp.tups T6 _ (noL_enc (.no s)) hD0) .nil))
  | jn k ss =>
    have hok : ss.length ≤ 4 ∧ sOkAll ss = true := by simpa [sOk] using hs0
    have l3 : ss.length ≤ 3 := of_decide_eq_true hw3
    rw [enc, encAll_map] at hD
    obtain ⟨sa, xs, rfl, hs, da⟩ := dp_tup hD
    obtain ⟨v0, v1, rfl, h0, h1⟩ := dpa2 da
    rw [dp_str h0] at hs
    obtain ⟨wsa, ws, rfl, hws, dws⟩ := dp_tup h1
    have lws : ws.length = ss.length := by rw [DpAll.length dws, List.length_map]
    refine ⟨_, rfl, sa, _, 0, _, rfl, rfl, hs, rfl, _, rfl, sz_small (show 4 ≤ 16000000 by decide), fun t1 n1 => in_new false (jw_in4 k) rfl ⟨_, rfl, iteF ?_⟩⟩
    have S1 := same_new (o := .tup [.str "most", .str "less", .str "same", .str "unlike"]) n1
    refine ⟨_, rfl, sz_small (show 3 ≤ 16000000 by decide), fun t2 n2 => in_new false (jw_in3 k) rfl ⟨_, rfl, iteF ?_⟩⟩
    have S2 := S1.trans (same_new (o := .tup [.str "ahead", .str "here", .str "next"]) n2)
    refine ⟨_, rfl, rfl, _, rfl, ?_⟩
    refine ite2 (fun e => Bool.noConfusion (e.symm.trans (jw_not k))) (fun _ => ?_)
    refine ⟨_, rfl, sz_small (show 2 ≤ 16000000 by decide), fun t3 n3 => in_new true (jw_in2 k) rfl ⟨_, rfl, iteT ?_⟩⟩
    have S3 := S2.trans (same_new (o := .tup [.str "and", .str "or"]) n3)
    have hs3 := Same.sqT S3 hs
    have hws3 := Same.sqT S3 hws
    refine ⟨_, rfl, _, rfl, sa, _, 1, _, rfl, rfl, hs3, rfl, Nat.zero_le _, fun e1 m1 => ⟨sz_small (show 2 ≤ 16000000 by decide), fun e2 m2 => ⟨sz_small (show 1 ≤ 16000000 by decide), fun e3 m3 => ?_⟩⟩⟩
    have a1 := same_new (o := .tup []) m1
    have a2 := same_new (o := .tup [V.str "or", V.ref e1]) m2
    have a3 := same_new (o := .tup [V.ref e2]) m3
    refine cat_use (Same.sqT a3 (Same.sqT a2 (Same.sqT a1 hws3))) (SqT.of upd_same) (by show ws.length + 1 ≤ 16000000; omega) fun q1 H4 a4 h4 => ⟨sz_small (show 2 ≤ 16000000 by decide), fun u1 m4 => ?_⟩
    have a5 := same_new (o := .tup [V.str (S (wd (jw k))), V.ref q1]) m4
    refine ⟨sz_small (show 2 ≤ 16000000 by decide), fun l1 m5 => ⟨_, rfl, rfl, .inr ⟨_, rfl, l1, _, _, _, rfl, rfl, SqL.of upd_same, jw_at k, ?_⟩⟩⟩
    have a6 := same_new (o := .lst [V.str "or", V.str "and"]) m5
    have A6 := a1.trans (a2.trans (a3.trans (a4.trans (a5.trans a6))))
    refine ⟨_, rfl, sa, _, 1, _, rfl, rfl, Same.sqT A6 hs3, rfl, sz_small (show 2 ≤ 16000000 by decide), fun u2 m6 => ⟨sz_small (show 2 ≤ 16000000 by decide), fun L m7 => ?_⟩⟩
    have a7 := same_new (o := .tup [V.str (Str.ofString (jw !k)), V.ref wsa]) m6
    have a8 := same_new (o := .lst [V.ref u1, V.ref u2]) m7
    have A8 := A6.trans (a7.trans a8)
    refine ⟨_, rfl, _, rfl, _, rfl, sa, _, 1, _, rfl, rfl, Same.sqT A8 hs3, rfl, wsa, ws, rfl, Same.sqT A8 hws3, ?_⟩
    rw [backV_small ws (by omega)]
    refine ⟨sz_small (by rw [List.length_reverse]; omega), fun u3 m8 => ⟨sz_small (show 2 ≤ 16000000 by decide), fun u4 m9 => ⟨sz_small (show 1 ≤ 16000000 by decide), fun l2 m10 => ?_⟩⟩⟩
    have a9 := same_new (o := .tup ws.reverse) m8
    have a10 := same_new (o := .tup [V.str (S (wd (jw k))), V.ref u3]) m9
    have a11 := same_new (o := .lst [V.ref u4]) m10
    refine ⟨L, l2, _, _, rfl, rfl, (a9.trans (a10.trans a11)) _ _ upd_same, upd_same, sz_small (show 3 ≤ 16000000 by decide), fun l nl => ?_⟩
    have SS := S3.trans (A8.trans (a9.trans (a10.trans a11)))
    have d5 := dk.same SS
    have S6 := same_new (o := .lst [V.ref u1, V.ref u2, V.ref u4]) nl
    refine ⟨_, rfl, p, 3, _, rfl, d5.new nl, by decide, by decide, by omega, fun r H6 k6 d6 r0 r1 => pick_use (c := 0) (vs := [V.ref u1, V.ref u2, V.ref u4]) (d5.ne nl) upd_same k6 r0 r1 fun v mv => ?_⟩
    have KK := (Keep.of (p := p) (SS.trans S6)).trans k6
    have t6 := (d5.new nl).tups k6
    have D6 : Deck H6 p (c + 20) := d6.mono (by omega)
    have T6 := dk.tups KK
    have g := DpAll.tups T6 _ (noLAll_map ss) dws
    have dss : dep (.jn k ss) = depAll ss + 1 := by simp only [dep]
    rcases List.mem_cons.mp mv with rfl | mv
    · have okA : sOkAll (ss ++ [.jn false []]) = true := sOkAll_iff.mpr fun x hx => by
        rcases List.mem_append.mp hx with hx | hx
        · exact sOkAll_iff.mp hok.2 x hx
        · rw [List.mem_singleton.mp hx]
          simp [sOk, sOkAll]
      have dpA : depAll (ss ++ [.jn false []]) ≤ depAll ss + 1 := depAll_le.mpr fun x hx => by
        rcases List.mem_append.mp hx with hx | hx
        · exact Nat.le_succ_of_le (depAll_le.mp (Nat.le_refl _) x hx)
        · rw [List.mem_singleton.mp hx]
          simp [dep, depAll]
      refine q (.jn k (ss ++ [.jn false []])) _ _ KK D6 ?_ ?_ ?_
      · have : (ss ++ [Say.jn false []]).length ≤ 4 := by
          rw [List.length_append]
          show ss.length + 1 ≤ 4
          omega
        simp only [sOk, okA, this, decide_true, Bool.and_true]
      · simp only [dep]
        omega
      · refine enc_jn (t6.sq (Same.sqT S6 (Same.sqT a11 (Same.sqT a10 (Same.sqT a9 (Same.sqT a8 (Same.sqT a7 (Same.sqT a6 (SqT.of upd_same)))))))))
          (t6.sq (Same.sqT S6 (Same.sqT a11 (Same.sqT a10 (Same.sqT a9 (Same.sqT a8 (Same.sqT a7 (Same.sqT a6 (Same.sqT a5 h4))))))))) ?_
        rw [List.map_append]
        refine DpAll.append g (.cons (enc_jn (k := false) (t6.sq (Same.sqT S6 (Same.sqT a11 (Same.sqT a10 (Same.sqT a9 (Same.sqT a8 (Same.sqT a7 (Same.sqT a6 (Same.sqT a5 (Same.sqT a4 (Same.sqT a3 (SqT.of upd_same))))))))))))
          (t6.sq (Same.sqT S6 (Same.sqT a11 (Same.sqT a10 (Same.sqT a9 (Same.sqT a8 (Same.sqT a7 (Same.sqT a6 (Same.sqT a5 (Same.sqT a4 (Same.sqT a3 (Same.sqT a2 (SqT.of upd_same)))))))))))) ) .nil) .nil)
    rcases List.mem_cons.mp mv with rfl | mv
    · refine q (.jn (!k) ss) _ _ KK D6 (by simp [sOk, hok.1, hok.2]) (by simp [dep]) ?_
      exact enc_jn (t6.sq (Same.sqT S6 (Same.sqT a11 (Same.sqT a10 (Same.sqT a9 (Same.sqT a8 (SqT.of upd_same))))))) (T6.sq hws) g
    · rw [List.mem_singleton.mp mv]
      have okR : sOkAll ss.reverse = true := sOkAll_iff.mpr fun x hx => sOkAll_iff.mp hok.2 x (List.mem_reverse.mp hx)
      have dpR : depAll ss.reverse ≤ depAll ss := depAll_le.mpr fun x hx => depAll_le.mp (Nat.le_refl _) x (List.mem_reverse.mp hx)
      refine q (.jn k ss.reverse) _ _ KK D6 ?_ ?_ ?_
      · have : ss.reverse.length ≤ 4 := by
          rw [List.length_reverse]
          omega
        simp only [sOk, okR, this, decide_true, Bool.and_true]
      · simp only [dep]
        omega
      · refine enc_jn (t6.sq (Same.sqT S6 (Same.sqT a11 (SqT.of upd_same)))) (t6.sq (Same.sqT S6 (Same.sqT a11 (Same.sqT a10 (SqT.of upd_same))))) ?_
        rw [List.map_reverse]
        exact DpAll.rev g
  | iff s t =>
    rw [enc] at hD
    obtain ⟨sa, xs, rfl, hs, da⟩ := dp_tup hD
    obtain ⟨v0, v1, v2, rfl, h0, h1, h2⟩ := dpa3 da
    rw [dp_str h0] at hs
    have hok : sOk s = true ∧ sOk t = true := by simpa [sOk] using hs0
    refine ⟨_, rfl, sa, _, 0, _, rfl, rfl, hs, rfl, _, rfl, sz_small (show 4 ≤ 16000000 by decide), fun t1 n1 => in_new false (by decide +kernel) rfl ⟨_, rfl, iteF ?_⟩⟩
    have S1 := same_new (o := .tup [.str "most", .str "less", .str "same", .str "unlike"]) n1
    refine ⟨_, rfl, sz_small (show 3 ≤ 16000000 by decide), fun t2 n2 => in_new false (by decide +kernel) rfl ⟨_, rfl, iteF ?_⟩⟩
    have S2 := S1.trans (same_new (o := .tup [.str "ahead", .str "here", .str "next"]) n2)
    refine ⟨_, rfl, rfl, _, rfl, iteF ?_⟩
    refine ⟨_, rfl, sz_small (show 2 ≤ 16000000 by decide), fun t3 n3 => in_new false (by decide +kernel) rfl ⟨_, rfl, iteF ?_⟩⟩
    have S3 := S2.trans (same_new (o := .tup [.str "and", .str "or"]) n3)
    refine ⟨_, rfl, rfl, _, rfl, iteT ?_⟩
    have hs3 := Same.sqT S3 hs
    refine ⟨_, rfl, sa, _, 2, _, rfl, rfl, hs3, rfl, _, rfl, sa, _, 1, _, rfl, rfl, hs3, rfl, sz_small (show 3 ≤ 16000000 by decide), fun u1 m1 => ⟨_, rfl, 1, rfl, ?_⟩⟩
    have a1 := same_new (o := .tup [V.str "if", v2, v1]) m1
    dsimp only [tNoPart]
    refine cut_use (Same.sqT a1 hs3) fun q1 H4 a2 h4 => ⟨sz_small (show 2 ≤ 16000000 by decide), fun u2 m2 => ⟨sz_small (show 2 ≤ 16000000 by decide), fun l nl => ?_⟩⟩
    have h4 : SqT K H4 q1 [v1, v2] := h4
    have a3 := same_new (o := .tup [V.str "or", V.ref q1]) m2
    have SS := S3.trans (a1.trans (a2.trans a3))
    have d5 := dk.same SS
    have S6 := same_new (o := .lst [V.ref u1, V.ref u2]) nl
    refine ⟨_, rfl, p, 2, _, rfl, d5.new nl, by decide, by decide, by omega, fun r H6 k6 d6 r0 r1 => pick_use (c := 0) (vs := [V.ref u1, V.ref u2]) (d5.ne nl) upd_same k6 r0 r1 fun v mv => ?_⟩
    have KK := (Keep.of (p := p) (SS.trans S6)).trans k6
    have t6 := (d5.new nl).tups k6
    have D6 : Deck H6 p (c + 20) := d6.mono (by omega)
    have T6 := dk.tups KK
    have g1 := Dp.tups T6 _ (noL_enc s) h1
    have g2 := Dp.tups T6 _ (noL_enc t) h2
    rcases List.mem_cons.mp mv with rfl | mv
    · refine q (.iff t s) _ _ KK D6 (by simp [sOk, hok.1, hok.2]) (by simp only [dep]; omega) ?_
      rw [enc]
      exact .tup (t6.sq (Same.sqT S6 (Same.sqT a3 (Same.sqT a2 (SqT.of upd_same))))) (.cons (.str _) (.cons g2 (.cons g1 .nil)))
    · rw [List.mem_singleton.mp mv]
      refine q (.jn false [s, t]) _ _ KK D6 (by simp [sOk, sOkAll, hok.1, hok.2]) (by simp only [dep, depAll]; omega) ?_
      exact enc_jn (k := false) (t6.sq (Same.sqT S6 (SqT.of upd_same))) (t6.sq (Same.sqT S6 (Same.sqT a3 h4))) (.cons g1 (.cons g2 .nil))
  | ea x s =>
    rw [enc] at hD
    obtain ⟨sa, xs, rfl, hs, da⟩ := dp_tup hD
    obtain ⟨v0, v1, v2, rfl, h0, h1, h2⟩ := dpa3 da
    rw [dp_str h0, dp_str h1] at hs
    have hok : nameOk x = true ∧ sOk s = true := by simpa [sOk] using hs0
    refine ⟨_, rfl, sa, _, 0, _, rfl, rfl, hs, rfl, _, rfl, sz_small (show 4 ≤ 16000000 by decide), fun t1 n1 => in_new false (by decide +kernel) rfl ⟨_, rfl, iteF ?_⟩⟩
    have S1 := same_new (o := .tup [.str "most", .str "less", .str "same", .str "unlike"]) n1
    refine ⟨_, rfl, sz_small (show 3 ≤ 16000000 by decide), fun t2 n2 => in_new false (by decide +kernel) rfl ⟨_, rfl, iteF ?_⟩⟩
    have S2 := S1.trans (same_new (o := .tup [.str "ahead", .str "here", .str "next"]) n2)
    refine ⟨_, rfl, rfl, _, rfl, iteF ?_⟩
    refine ⟨_, rfl, sz_small (show 2 ≤ 16000000 by decide), fun t3 n3 => in_new false (by decide +kernel) rfl ⟨_, rfl, iteF ?_⟩⟩
    have S3 := S2.trans (same_new (o := .tup [.str "and", .str "or"]) n3)
    refine ⟨_, rfl, rfl, _, rfl, iteF ⟨_, rfl, rfl, _, rfl, iteF ?_⟩⟩
    have hs3 := Same.sqT S3 hs
    refine ⟨_, rfl, 1, rfl, -1, rfl, cut_use hs3 fun q1 H4 a1 h4 => ?_⟩
    have h4 : SqT K H4 q1 [.str (S (wd "each")), .str (S x)] := h4
    refine ⟨_, rfl, 1, rfl, sa, _, -1, _, rfl, rfl, Same.sqT a1 hs3, rfl, sz_small (show 2 ≤ 16000000 by decide), fun u1 m1 => ⟨sz_small (show 1 ≤ 16000000 by decide), fun u2 m2 => ?_⟩⟩
    have a2 := same_new (o := .tup [V.str "not", v2]) m1
    have a3 := same_new (o := .tup [V.ref u1]) m2
    refine cat_use (Same.sqT a3 (Same.sqT a2 h4)) (SqT.of upd_same) (by show 2 + 1 ≤ 16000000; decide) fun q2 H5 a4 h5 => ?_
    have SS := S3.trans (a1.trans (a2.trans (a3.trans a4)))
    refine q (.ea x (.no s)) _ _ (Keep.of SS) ((dk.same SS).mono (by omega)) (by simp [sOk, hok.1, hok.2]) (by simp [dep]) ?_
    rw [enc, enc]
    exact .tup h5 (.cons (.str _) (.cons (.str _) (.cons (.tup (Same.sqT a4 (Same.sqT a3 (SqT.of upd_same))) (.cons (.str _) (.cons (Dp.tups (Same.tups SS) _ (noL_enc s) h2) .nil))) .nil)))
  | pa x y s =>
    rw [enc] at hD
    obtain ⟨sa, xs, rfl, hs, da⟩ := dp_tup hD
    obtain ⟨v0, v1, v2, v3, rfl, h0, h1, h2, h3⟩ := dpa4 da
    rw [dp_str h0, dp_str h1, dp_str h2] at hs
    have hok : (nameOk x = true ∧ nameOk y = true) ∧ sOk s = true := by simpa [sOk] using hs0
    refine ⟨_, rfl, sa, _, 0, _, rfl, rfl, hs, rfl, _, rfl, sz_small (show 4 ≤ 16000000 by decide), fun t1 n1 => in_new false (by decide +kernel) rfl ⟨_, rfl, iteF ?_⟩⟩
    have S1 := same_new (o := .tup [.str "most", .str "less", .str "same", .str "unlike"]) n1
    refine ⟨_, rfl, sz_small (show 3 ≤ 16000000 by decide), fun t2 n2 => in_new false (by decide +kernel) rfl ⟨_, rfl, iteF ?_⟩⟩
    have S2 := S1.trans (same_new (o := .tup [.str "ahead", .str "here", .str "next"]) n2)
    refine ⟨_, rfl, rfl, _, rfl, iteF ?_⟩
    refine ⟨_, rfl, sz_small (show 2 ≤ 16000000 by decide), fun t3 n3 => in_new false (by decide +kernel) rfl ⟨_, rfl, iteF ?_⟩⟩
    have S3 := S2.trans (same_new (o := .tup [.str "and", .str "or"]) n3)
    refine ⟨_, rfl, rfl, _, rfl, iteF ⟨_, rfl, rfl, _, rfl, iteF ?_⟩⟩
    have hs3 := Same.sqT S3 hs
    refine ⟨_, rfl, 1, rfl, -1, rfl, cut_use hs3 fun q1 H4 a1 h4 => ?_⟩
    have h4 : SqT K H4 q1 [.str (S (wd "pairs")), .str (S x), .str (S y)] := h4
    refine ⟨_, rfl, 1, rfl, sa, _, -1, _, rfl, rfl, Same.sqT a1 hs3, rfl, sz_small (show 2 ≤ 16000000 by decide), fun u1 m1 => ⟨sz_small (show 1 ≤ 16000000 by decide), fun u2 m2 => ?_⟩⟩
    have a2 := same_new (o := .tup [V.str "not", v3]) m1
    have a3 := same_new (o := .tup [V.ref u1]) m2
    refine cat_use (Same.sqT a3 (Same.sqT a2 h4)) (SqT.of upd_same) (by show 3 + 1 ≤ 16000000; decide) fun q2 H5 a4 h5 => ?_
    have SS := S3.trans (a1.trans (a2.trans (a3.trans a4)))
    refine q (.pa x y (.no s)) _ _ (Keep.of SS) ((dk.same SS).mono (by omega)) (by simp [sOk, hok.1, hok.2]) (by simp [dep]) ?_
    rw [enc, enc]
    exact .tup h5 (.cons (.str _) (.cons (.str _) (.cons (.str _) (.cons (.tup (Same.sqT a4 (Same.sqT a3 (SqT.of upd_same))) (.cons (.str _) (.cons (Dp.tups (Same.tups SS) _ (noL_enc s) h3) .nil))) .nil))))
end
end Ep

/-! 16. is_name, is_whole, spots_of, is_base, is_sum_at, is_new. -/
namespace Ep
open PySem PySem.Spec PyProof.Rows L2 SX
open C8 (Cal Met Mak Def cal0 met0 mak0 pe_c pe_mk pe_mt pe_mt0 fnBody fnScope fnArgs fnScope_by pe_gc pss_cut)
theorem if_t {c : Bool} {P Q : Prop} (e : c = true) (h : P) : if c = true then P else Q := by
  rw [if_pos e]
  exact h
theorem if_f {c : Bool} {P Q : Prop} (e : c = false) (h : Q) : if c = true then P else Q := by
  rw [if_neg (by rw [e]; exact Bool.false_ne_true)]
  exact h
theorem sqT_ty {K : PySem.W.Frag} {H : Hp} {a : Addr} {xs : List V} (h : SqT K H a xs) : TyX K H (.ref a) (.type "tuple") := by
  rcases h with (h | ⟨o, h⟩) | ⟨o, its, n, h1, h2, _⟩
  · exact .base (.tup h)
  · exact .fTuple h
  · exact .kTuple h1 h2
/-- whether a name is a word of the tongue -/
def isWord (x : List Nat) : Bool := inV (.str (S x)) (zWords.map V.str)
def isNew (C : Cast) (x : List Nat) : Bool := !isWord x && !decide (x ∈ C.rows ++ C.places ++ C.numbers)
def spots (C : Cast) (bnd : List (List Nat)) : List (List Nat) := C.places ++ bnd ++ [wd "end"]
def isBase (C : Cast) (sp : List (List Nat)) : Bs → Bool
  | .non => true
  | .num z => decide (z ∈ C.numbers)
  | .cell r p => decide (r ∈ C.rows) && decide (p ∈ sp)
theorem or3 {t u v : TT} {σ : L2.St} {H : Hp} {R : Bool → Hp → Prop} {a b c : Bool} (ht : ∀ R' : Bool → Hp → Prop, R' a H → t σ H R') (hu : ∀ R' : Bool → Hp → Prop, R' b H → u σ H R') (hv : ∀ R' : Bool → Hp → Prop, R' c H → v σ H R') (q : R (a || (b || c)) H) : tOr t (tOr u v) σ H R :=
  or2 ht (fun R' q' => or2 hu hv q') q
section
variable {P : Program} {w : World} {K : PySem.W.Frag} {mg : Str → Option Value} {base : Heap} {A : Ad}
/-! ### is_name -/
abbrev sIsName : Stmt := top 7
abbrev nIsName : List Str := ["thing", "sign"]
theorem scIsName : FnScope nIsName ["thing"] (fnScope sIsName) := fnScope_by (by decide +kernel)
def spIsName : Sp := fun vs H Q _ => ∃ x : List Nat, vs = [.str (S x)] ∧ nameOk x = true ∧ ∀ H', Same H H' → Q (.bl (!isWord x)) H'
theorem letters_cps : (Str.ofString "abcdefghijklmnopqrstuvwxyz").cps.toList = zLetters := by decide +kernel
theorem all_true : ∀ n : Nat, (List.replicate n true).all id = true
  | 0 => rfl
  | n + 1 => all_true n
theorem ok_is_name (T : Tx K mg A) (D : Dfn K mg "is_name" sIsName) : Cal P w K mg base 1 "is_name" spIsName [] := by
  refine cal_of D scIsName (fun _ _ _ _ _ _ us hl => match us, hl with | [_], _ => rfl) (fun vs H Q E h => ?_) (fun f cdv A outer s H vs Q E hr h => ?_)
  · obtain ⟨x, rfl, _⟩ := h
    rfl
  obtain ⟨x, rfl, hx, q⟩ := h
  obtain ⟨xne, xl, xc⟩ := nameOk_iff.mp hx
  refine ⟨_, (pss_cons
    (ps_if (PW.pt (pw_or (pt_not (pt_val (pe_callB call_isi (by rfl) T.isinstance_ (by decide +kernel) (pa_cons (pv 0) (pa_cons (pe_bltn (v := .ty "str") (u := .type "str") (by rfl) T.str_ (by decide +kernel) rfl) pa_nil))))) (pw_or (pt_not (pt_chain op_le op_le pe_int (pe_callB call_len_str (by rfl) T.len_ (by decide +kernel) (pa_cons (pv 0) pa_nil)) (pe_gc (by rfl) T.vMOST_LETTERS))) (pw_or1 (pt_cmpR op_in_seq (pv 0) (pe_gc (by rfl) T.vWORDS) (by rfl)))))) (pss_one
    (ps_ret pe_bl)) pss_nil)
    (pss_one
    (ps_ret (pe_callB (cr_all rfl) (by rfl) T.all_ (by decide +kernel) (pa_cons (pe_lc (own := [("sign", 1)]) (g := gName 1) (tt := tYes) rfl scIsName.nd (pi_str (pv 0)) (blkOk_by (own := [("sign", 1)]) (N := nIsName) (sc := fnScope sIsName) (by decide +kernel)) (fun _ _ _ _ _ => pg_name (i := 1) scIsName.nd rfl (Or.inl rfl)) (fun _ _ _ _ _ => pts_nil) (fun _ _ _ _ _ => (pe_cmpR op_in_sign (pv 1) (pe_gc (by rfl) T.vLETTERS) (by rfl)))) pa_nil))))), ?_⟩
  have hp : 1 ≤ x.length := by
    cases x with
    | nil => exact absurd rfl xne
    | cons a r => exact Nat.succ_le_succ (Nat.zero_le _)
  refine ⟨_, rfl, _, _, _, _, true, rfl, .ty _, .base (.str _), kit_ty (by decide +kernel), _, rfl, iteF ?_⟩
  refine ⟨_, rfl, S x, rfl, by rw [S_len]; exact sz_small (by omega), _, _, rfl, rfl, true, congrArg V.bl (decide_eq_true (by rw [S_len]; omega)), iteT ⟨_, _, rfl, rfl, true, congrArg V.bl (decide_eq_true (by rw [S_len]; omega)), iteF ?_⟩⟩
  refine ⟨_, rfl, _, _, rfl, .inr (T.tWORDS _), rfl, by decide +kernel, _, rfl, ?_⟩
  refine ite2 (fun e => ?_) (fun e => ?_)
  · have e' : isWord x = true := e
    have := q H (Same.refl H)
    rw [e'] at this
    exact this
  · have e' : isWord x = false := Bool.eq_false_iff.mpr e
    refine ⟨_, rfl, _, rfl, fun D nD => lc_it walk_str (fun i H' => H' D = some (.lst ((List.replicate i true).map V.bl)) ∧ Same H H') ⟨upd_same, same_new nD⟩ (fun _ _ _ _ => trivial) ?_ ?_⟩
    · rintro i y H1 H2 hi ⟨hD, sm⟩ ⟨rfl, d, hd, rfl⟩
      have hdm : d ∈ x := by
        have h2 : x[i]? = some d := by
          have h3 : (S x).cps[i]? = some d := hd
          rw [← Array.getElem?_toList] at h3
          exact h3
        exact List.mem_of_getElem? h2
      have hil : i < x.length := by
        have h3 : i < (S x).cps.size := hi
        have h4 : (S x).cps.size = x.length := by simp [S]
        omega
      refine ⟨rfl, _, rfl, d, _, rfl, rfl, _, hD, sz_lt (by rw [List.length_map, List.length_replicate]; omega), ?_, Same.updN sm nD⟩
      rw [upd_same, letters_cps, decide_eq_true (mem_letters (xc d hdm)), List.replicate_succ', List.map_append]
      rfl
    · rintro H1 ⟨hD, sm⟩
      refine ⟨D, _, rfl, SqL.of hD, ?_⟩
      rw [all_true]
      have := q H1 sm
      rw [e'] at this
      exact this
/-! ### is_whole -/
abbrev sIsWhole : Stmt := top 8
abbrev nIsWhole : List Str := ["thing"]
theorem scIsWhole : FnScope nIsWhole ["thing"] (fnScope sIsWhole) := fnScope_by (by decide +kernel)
def spIsWhole : Sp := fun vs H Q _ => ∃ i : Int, vs = [.int i] ∧ Q (.bl true) H
theorem ok_is_whole (T : Tx K mg A) (D : Dfn K mg "is_whole" sIsWhole) : Cal P w K mg base 1 "is_whole" spIsWhole [] := by
  refine cal_of D scIsWhole (fun _ _ _ _ _ _ us hl => match us, hl with | [_], _ => rfl) (fun vs H Q E h => ?_) (fun f cdv A outer s H vs Q E hr h => ?_)
  · obtain ⟨i, rfl, _⟩ := h
    rfl
  obtain ⟨i, rfl, q⟩ := h
  refine ⟨_, (pss_one
    (ps_ret (pe_and (pe_callB call_isi (by rfl) T.isinstance_ (by decide +kernel) (pa_cons (pv 0) (pa_cons (pe_bltn (v := .ty "int") (u := .type "int") (by rfl) T.int_ (by decide +kernel) rfl) pa_nil))) (pe_one (pe_not (pe_callB call_isi (by rfl) T.isinstance_ (by decide +kernel) (pa_cons (pv 0) (pa_cons (pe_bltn (v := .ty "bool") (u := .type "bool") (by rfl) T.bool_ (by decide +kernel) rfl) pa_nil)))))))), ?_⟩
  exact ⟨_, rfl, _, _, _, _, true, rfl, .ty _, .base (.int _), kit_ty (by decide +kernel), _, rfl, iteT ⟨_, rfl, _, _, _, _, false, rfl, .ty _, .base (.int _), kit_ty (by decide +kernel), _, rfl, q⟩⟩
/-! ### spots_of -/
abbrev sSpotsOf : Stmt := top 11
abbrev nSpotsOf : List Str := ["cast", "bound"]
theorem scSpotsOf : FnScope nSpotsOf ["cast", "bound"] (fnScope sSpotsOf) := fnScope_by (by decide +kernel)
def spSpots (K : PySem.W.Frag) : Sp := fun vs H Q _ => ∃ (cv : V) (b : Addr) (C : Cast) (bnd : List (List Nat)), vs = [cv, .ref b] ∧ Dp K H cv (castD C) ∧ SqT K H b (strV bnd) ∧ CbOk C bnd ∧ ∀ a H', Same H H' → SqT K H' a (strV (spots C bnd)) → Q (.ref a) H'
theorem ok_spots (T : Tx K mg A) (D : Dfn K mg "spots_of" sSpotsOf) : Cal P w K mg base 1 "spots_of" (spSpots K) [] := by
  refine cal_of D scSpotsOf (fun _ _ _ _ _ _ us hl => match us, hl with | [_, _], _ => rfl) (fun vs H Q E h => ?_) (fun f cdv A outer s H vs Q E hr h => ?_)
  · obtain ⟨cv, b, C, bnd, rfl, _⟩ := h
    rfl
  obtain ⟨cv, b, C, bnd, rfl, hC, hb, ok, q⟩ := h
  obtain ⟨ca, ra, pa, na, rfl, hc, _, hp, _⟩ := dp_cast hC
  have bl := ok.bl
  have pl := ok.pl
  refine ⟨_, (pss_one
    (ps_ret (pe_op op_catA (pe_op op_catA (pe_ix (ix_tupK (K := K)) (pv 0) pe_int (fun _ _ => rfl)) (pe_callTy (call_tuple_ofK (K := K)) (by rfl) T.tuple_ (by decide +kernel) (pa_cons (pv 1) pa_nil))) (pe_tup (pa_cons (pe_gc (by rfl) T.vEND) pa_nil))))), ?_⟩
  refine ⟨_, rfl, ca, _, 1, _, rfl, rfl, hc, rfl, _, rfl, b, _, rfl, .inr ⟨hb, cat_use hp hb (by rw [strV_len, strV_len]; omega) fun q1 H1 a1 h1 => ⟨sz_small (show 1 ≤ 16000000 by decide), fun t nt => cat_use (Same.sqT (same_new nt) h1) (SqT.of upd_same) (by rw [List.length_append, strV_len, strV_len]; show C.places.length + bnd.length + 1 ≤ _; omega) fun q2 H2 a2 h2 => ?_⟩⟩⟩
  rw [strV_app] at h2
  refine q q2 H2 (a1.trans ((same_new nt).trans a2)) ?_
  unfold spots
  rw [← strV_snoc]
  exact h2
/-! ### is_base -/
abbrev sIsBase : Stmt := top 12
abbrev nIsBase : List Str := ["cast", "spots", "thing"]
theorem scIsBase : FnScope nIsBase ["cast", "spots", "thing"] (fnScope sIsBase) := fnScope_by (by decide +kernel)
def spIsBase (K : PySem.W.Frag) : Sp := fun vs H Q _ => ∃ (cv : V) (a : Addr) (v : V) (C : Cast) (sp : List (List Nat)) (b : Bs), vs = [cv, .ref a, v] ∧ Dp K H cv (castD C) ∧ SqT K H a (strV sp) ∧ Dp K H v (encB b) ∧ Q (.bl (isBase C sp b)) H
theorem ok_is_base (T : Tx K mg A) (D : Dfn K mg "is_base" sIsBase) : Cal P w K mg base 1 "is_base" (spIsBase K) [] := by
  refine cal_of D scIsBase (fun _ _ _ _ _ _ us hl => match us, hl with | [_, _, _], _ => rfl) (fun vs H Q E h => ?_) (fun f cdv A outer s H vs Q E hr h => ?_)
  · obtain ⟨cv, a, v, C, sp, b, rfl, _⟩ := h
    rfl
  obtain ⟨cv, a, v, C, sp, b, rfl, hC, hs, hv, q⟩ := h
  obtain ⟨ca, ra, pa, na, rfl, hc, hR, hP, hN⟩ := dp_cast hC
  refine ⟨_, (pss_cons
    (ps_if (pt_cmpR op_isN (pv 2) pe_non (nomark _)) (pss_one
    (ps_ret pe_bl)) pss_nil)
    (pss_cons
    (ps_if (pt_val (pe_callB call_isi (by rfl) T.isinstance_ (by decide +kernel) (pa_cons (pv 2) (pa_cons (pe_bltn (v := .ty "str") (u := .type "str") (by rfl) T.str_ (by decide +kernel) rfl) pa_nil)))) (pss_one
    (ps_ret (pe_cmpR op_in_seq (pv 2) (pe_ix (ix_tupK (K := K)) (pv 0) pe_int (fun _ _ => rfl)) (by rfl)))) pss_nil)
    (pss_cons
    (ps_if (PW.pt (pw_or (pt_not (pt_val (pe_callB call_isi (by rfl) T.isinstance_ (by decide +kernel) (pa_cons (pv 2) (pa_cons (pe_bltn (v := .ty "tuple") (u := .type "tuple") (by rfl) T.tuple_ (by decide +kernel) rfl) pa_nil))))) (pw_or1 (pt_cmpR op_ne (pe_callB call_len_seq (by rfl) T.len_ (by decide +kernel) (pa_cons (pv 2) pa_nil)) pe_int (nomark _))))) (pss_one
    (ps_ret pe_bl)) pss_nil)
    (pss_one
    (ps_ret (pe_and (pe_cmpR op_in_seq (pe_ix (ix_tupK (K := K)) (pv 2) pe_int (fun _ _ => rfl)) (pe_ix (ix_tupK (K := K)) (pv 0) pe_int (fun _ _ => rfl)) (by rfl)) (pe_one (pe_cmpR op_in_seq (pe_ix (ix_tupK (K := K)) (pv 2) pe_int (fun _ _ => rfl)) (pv 1) (by rfl))))))))), ?_⟩
  cases b with
  | non =>
    rw [dp_non hv]
    exact ⟨_, rfl, rfl, _, rfl, if_t (by decide) q⟩
  | num z =>
    rw [dp_str hv]
    refine ⟨_, rfl, rfl, _, rfl, if_f (decide_eq_false (fun e => nomatch e)) ?_⟩
    exact ⟨_, rfl, _, _, _, _, true, rfl, .ty _, .base (.str _), kit_ty (by decide +kernel), _, rfl, iteT ⟨_, rfl, _, rfl, ca, _, 2, _, rfl, rfl, hc, rfl, in_useT hN q⟩⟩
  | cell r p =>
    obtain ⟨t, xs, rfl, ht, da⟩ := dp_tup hv
    obtain ⟨v1, v2, rfl, h1, h2⟩ := dpa2 da
    rw [dp_str h1, dp_str h2] at ht
    refine ⟨_, rfl, rfl, _, rfl, if_f (decide_eq_false (fun e => nomatch e)) ?_⟩
    refine ⟨_, rfl, _, _, _, _, false, rfl, .ty _, sqT_ty ht, kit_ty (by decide +kernel), _, rfl, iteF ?_⟩
    refine ⟨_, rfl, _, _, _, _, true, rfl, .ty _, sqT_ty ht, kit_ty (by decide +kernel), _, rfl, iteF ?_⟩
    refine ⟨_, rfl, t, _, rfl, .inr ht, rfl, _, rfl, if_f rfl ?_⟩
    refine ⟨_, rfl, t, _, 0, _, rfl, rfl, ht, rfl, _, rfl, ca, _, 0, _, rfl, rfl, hc, rfl, in_useT hR ⟨_, rfl, ?_⟩⟩
    refine ite2 (fun e => ?_) (fun e => ?_)
    · refine ⟨_, rfl, t, _, 1, _, rfl, rfl, ht, rfl, _, rfl, in_useT hs ?_⟩
      have q : Q (.bl (decide (r ∈ C.rows) && decide (p ∈ sp))) H := q
      rw [e] at q
      exact q
    · have q : Q (.bl (decide (r ∈ C.rows) && decide (p ∈ sp))) H := q
      rw [Bool.eq_false_iff.mpr e] at q
      exact q
/-! ### is_sum_at -/
abbrev sIsSumAt : Stmt := top 13
abbrev nIsSumAt : List Str := ["cast", "spots", "thing"]
theorem scIsSumAt : FnScope nIsSumAt ["cast", "spots", "thing"] (fnScope sIsSumAt) := fnScope_by (by decide +kernel)
def spIsSumAt (K : PySem.W.Frag) : Sp := fun vs H Q _ => ∃ (cv : V) (a : Addr) (v : V) (C : Cast) (sp : List (List Nat)) (b : Sm), vs = [cv, .ref a, v] ∧ Dp K H cv (castD C) ∧ SqT K H a (strV sp) ∧ Dp K H v (encM b) ∧ Q (.bl (isBase C sp b.1)) H
theorem ok_is_sum_at (T : Tx K mg A) (c_is_base : Cal P w K mg base 1 "is_base" (spIsBase K) []) (c_is_whole : Cal P w K mg base 1 "is_whole" spIsWhole []) (D : Dfn K mg "is_sum_at" sIsSumAt) : Cal P w K mg base 2 "is_sum_at" (spIsSumAt K) [] := by
  refine cal_of D scIsSumAt (fun _ _ _ _ _ _ us hl => match us, hl with | [_, _, _], _ => rfl) (fun vs H Q E h => ?_) (fun f cdv A outer s H vs Q E hr h => ?_)
  · obtain ⟨cv, a, v, C, sp, b, rfl, _⟩ := h
    rfl
  obtain ⟨cv, a, v, C, sp, b, rfl, hC, hs, hv, q⟩ := h
  obtain ⟨t, xs, rfl, ht, da⟩ := dp_tup hv
  obtain ⟨v1, v2, rfl, h1, h2⟩ := dpa2 da
  rw [dp_int h2] at ht
  refine ⟨_, (pss_cons
    (ps_if (PW.pt (pw_or (pt_not (pt_val (pe_callB call_isi (by rfl) T.isinstance_ (by decide +kernel) (pa_cons (pv 2) (pa_cons (pe_bltn (v := .ty "tuple") (u := .type "tuple") (by rfl) T.tuple_ (by decide +kernel) rfl) pa_nil))))) (pw_or1 (pt_cmpR op_ne (pe_callB call_len_seq (by rfl) T.len_ (by decide +kernel) (pa_cons (pv 2) pa_nil)) pe_int (nomark _))))) (pss_one
    (ps_ret pe_bl)) pss_nil)
    (pss_one
    (ps_ret (pe_and (pe_c c_is_base hr (by decide) (by rfl) (pa_cons (pv 0) (pa_cons (pv 1) (pa_cons (pe_ix (ix_tupK (K := K)) (pv 2) pe_int (fun _ _ => rfl)) pa_nil)))) (pe_one (pe_c c_is_whole hr (by decide) (by rfl) (pa_cons (pe_ix (ix_tupK (K := K)) (pv 2) pe_int (fun _ _ => rfl)) pa_nil))))))), ?_⟩
  refine ⟨_, rfl, _, _, _, _, true, rfl, .ty _, sqT_ty ht, kit_ty (by decide +kernel), _, rfl, iteF ?_⟩
  refine ⟨_, rfl, t, _, rfl, .inr ht, rfl, _, rfl, if_f rfl ?_⟩
  refine ⟨_, rfl, _, rfl, _, rfl, t, _, 0, _, rfl, rfl, ht, rfl, cv, a, v1, C, sp, b.1, rfl, hC, hs, h1, _, rfl, ?_⟩
  refine ite2 (fun e => ?_) (fun e => ?_)
  · refine ⟨_, rfl, t, _, 1, _, rfl, rfl, ht, rfl, b.2, rfl, ?_⟩
    rw [e] at q
    exact q
  · rw [Bool.eq_false_iff.mpr e] at q
    exact q
/-! ### is_new -/
abbrev sIsNew : Stmt := top 19
abbrev nIsNew : List Str := ["cast", "thing"]
theorem scIsNew : FnScope nIsNew ["cast", "thing"] (fnScope sIsNew) := fnScope_by (by decide +kernel)
def spIsNew (K : PySem.W.Frag) : Sp := fun vs H Q _ => ∃ (cv : V) (C : Cast) (x : List Nat), vs = [cv, .str (S x)] ∧ Dp K H cv (castD C) ∧ nameOk x = true ∧ C.rows.length ≤ 15 ∧ C.places.length ≤ 15 ∧ C.numbers.length ≤ 15 ∧ ∀ H', Same H H' → Q (.bl (isNew C x)) H'
theorem notin_useT {H : Hp} {Q : VK} {p : Addr} {z : List Nat} {zs : List (List Nat)} (h : SqT K H p (strV zs)) (q : Q (.bl (!decide (z ∈ zs))) H) : rIn K true (.str (S z)) (.ref p) H Q := by
  refine ⟨p, _, rfl, .inr h, rfl, flat_strs zs, ?_⟩
  rw [inV_strs]
  exact q
theorem ok_is_new (T : Tx K mg A) (c_is_name : Cal P w K mg base 1 "is_name" spIsName []) (D : Dfn K mg "is_new" sIsNew) : Cal P w K mg base 2 "is_new" (spIsNew K) [] := by
  refine cal_of D scIsNew (fun _ _ _ _ _ _ us hl => match us, hl with | [_, _], _ => rfl) (fun vs H Q E h => ?_) (fun f cdv A outer s H vs Q E hr h => ?_)
  · obtain ⟨cv, C, x, rfl, _⟩ := h
    rfl
  obtain ⟨cv, C, x, rfl, hC, hx, rl, pl, nl, q⟩ := h
  obtain ⟨ca, ra, pa, na, rfl, hc, hR, hP, hN⟩ := dp_cast hC
  refine ⟨_, (pss_one
    (ps_ret (pe_and (pe_c c_is_name hr (by decide) (by rfl) (pa_cons (pv 1) pa_nil)) (pe_one (pe_cmpR op_notIn_seq (pv 1) (pe_op op_catA (pe_op op_catA (pe_ix (ix_tupK (K := K)) (pv 0) pe_int (fun _ _ => rfl)) (pe_ix (ix_tupK (K := K)) (pv 0) pe_int (fun _ _ => rfl))) (pe_ix (ix_tupK (K := K)) (pv 0) pe_int (fun _ _ => rfl))) (by rfl)))))), ?_⟩
  refine ⟨_, rfl, x, rfl, hx, fun H1 a1 => ⟨_, rfl, ?_⟩⟩
  refine ite2 (fun e => ?_) (fun e => ?_)
  · have hc1 := Same.sqT a1 hc
    refine ⟨_, rfl, _, rfl, ca, _, 0, _, rfl, rfl, hc1, rfl, _, rfl, ca, _, 1, _, rfl, rfl, hc1, rfl, cat_use (Same.sqT a1 hR) (Same.sqT a1 hP) (by rw [strV_len, strV_len]; omega) fun q1 H2 a2 h2 => ⟨_, rfl, ca, _, 2, _, rfl, rfl, Same.sqT a2 hc1, rfl, cat_use h2 (Same.sqT a2 (Same.sqT a1 hN)) (by rw [List.length_append, strV_len, strV_len, strV_len]; omega) fun q2 H3 a3 h3 => ?_⟩⟩
    rw [strV_app, strV_app] at h3
    refine notin_useT h3 ?_
    have := q H3 (a1.trans (a2.trans a3))
    unfold isNew at this
    rw [e] at this
    exact this
  · have := q H1 a1
    unfold isNew at this
    rw [Bool.eq_false_iff.mpr e] at this
    exact this
end
end Ep

/-! 17. is_atom, are_parts, is_over_places, is_said, is_saying. -/
namespace Ep
open PySem PySem.Spec PyProof.Rows L2 SX
open C8 (Cal Met Mak Def cal0 met0 mak0 pe_c pe_mk pe_mt pe_mt0 fnBody fnScope fnArgs fnScope_by pe_gc pss_cut)
mutual
/-- what is_said tells -/
def said (C : Cast) : Say → List (List Nat) → Bool
  | .cmp _ a b, bnd => isBase C (spots C bnd) a.1 && isBase C (spots C bnd) b.1
  | .pl .ahead p q, bnd => decide (p ∈ spots C bnd) && decide (q ∈ spots C bnd)
  | .pl .here p q, bnd => decide (p ∈ spots C bnd) && decide (q ∈ spots C bnd)
  | .pl .next p q, bnd => bnd.isEmpty && (decide (p ∈ spots C []) && decide (q ∈ spots C []))
  | .pl .nexts p q, bnd => bnd.isEmpty && (decide (p ∈ C.rows) && inV (.str (S q)) (zPassed.map V.str))
  | .no s, bnd => said C s bnd
  | .jn _ ss, bnd => saidAll C ss bnd
  | .iff s t, bnd => said C s bnd && (said C t bnd && true)
  | .ea x s, bnd => bnd.isEmpty && (isNew C x && said C s [x])
  | .pa x y s, bnd => bnd.isEmpty && (isNew C x && (isNew C y && (!decide (V.str (S x) = V.str (S y)) && said C s [x, y])))
def saidAll (C : Cast) : List Say → List (List Nat) → Bool
  | [], _ => true
  | s :: ss, bnd => said C s bnd && saidAll C ss bnd
end
theorem saidAll_map (C : Cast) (bnd : List (List Nat)) : ∀ ss : List Say, (ss.map fun s => said C s bnd).all id = saidAll C ss bnd
  | [] => by simp [saidAll]
  | s :: ss => by
    have := saidAll_map C bnd ss
    simp only [List.map_cons, List.all_cons, id, saidAll, this]
theorem cwC (k : Cw) : inV (.str (S (wd k.s))) (zCompared.map V.str) = true := by cases k <;> decide +kernel
theorem cwJ (k : Cw) : inV (.str (S (wd k.s))) (zJoined.map V.str) = false := by cases k <;> decide +kernel
theorem cwNot (k : Cw) : decide (V.str (S (wd k.s)) = V.str (Str.ofString "not")) = false := by cases k <;> decide +kernel
theorem cwIf (k : Cw) : decide (V.str (S (wd k.s)) = V.str (Str.ofString "if")) = false := by cases k <;> decide +kernel
theorem pwC (k : Pw) : inV (.str (S (wd k.s))) (zCompared.map V.str) = false := by cases k <;> decide +kernel
theorem pwJ (k : Pw) : inV (.str (S (wd k.s))) (zJoined.map V.str) = false := by cases k <;> decide +kernel
theorem pwNot (k : Pw) : decide (V.str (S (wd k.s)) = V.str (Str.ofString "not")) = false := by cases k <;> decide +kernel
theorem pwIf (k : Pw) : decide (V.str (S (wd k.s)) = V.str (Str.ofString "if")) = false := by cases k <;> decide +kernel
theorem jwJ (k : Bool) : inV (.str (S (wd (jw k)))) (zJoined.map V.str) = true := by cases k <;> decide +kernel
theorem jwNot (k : Bool) : decide (V.str (S (wd (jw k))) = V.str (Str.ofString "not")) = false := by cases k <;> decide +kernel
/-- a saying is no empty tuple -/
theorem eqv_enc_nil (s : Say) : PyData.eqv (enc s) (.tuple []) = false := by
  obtain ⟨r, e⟩ := enc_head s
  rw [e]
  simp [PyData.eqv, PyData.eqvAll]
theorem and_if {a b : Bool} (F : Bool → Prop) (q : F (a && b)) : if a = true then F b else F false := by
  cases a with
  | true => exact iteT q
  | false => exact iteF q
/-- Q at a && b, from Q at b where a is so, and at no where it isn't -/
theorem and_q {a b : Bool} {F : Bool → Prop} (q : F (a && b)) : (a = true → F b) ∧ (a = false → F false) := by
  cases a with
  | true => exact ⟨fun _ => q, fun h => Bool.noConfusion h⟩
  | false => exact ⟨fun h => Bool.noConfusion h, fun _ => q⟩
section
variable {P : Program} {w : World} {K : PySem.W.Frag} {mg : Str → Option Value} {base : Heap} {A : Ad}
/-! ### is_atom -/
abbrev sIsAtom : Stmt := top 20
abbrev nIsAtom : List Str := ["cast", "bound", "thing", "spots"]
theorem scIsAtom : FnScope nIsAtom ["cast", "bound", "thing"] (fnScope sIsAtom) := fnScope_by (by decide +kernel)
/-- an atom that may stand everywhere -/
def every : Say → Bool
  | .cmp _ _ _ => true
  | .pl .ahead _ _ => true
  | .pl .here _ _ => true
  | _ => false
def spIsAtom (K : PySem.W.Frag) : Sp := fun vs H Q _ => ∃ (cv : V) (b : Addr) (v : V) (C : Cast) (bnd : List (List Nat)) (s : Say), vs = [cv, .ref b, v] ∧ Dp K H cv (castD C) ∧ SqT K H b (strV bnd) ∧ CbOk C bnd ∧ Dp K H v (enc s) ∧ every s = true ∧
  ∀ H', Same H H' → Q (.bl (said C s bnd)) H'
theorem ok_is_atom (T : Tx K mg A) (c_spots_of : Cal P w K mg base 1 "spots_of" (spSpots K) []) (c_is_sum_at : Cal P w K mg base 2 "is_sum_at" (spIsSumAt K) []) (D : Dfn K mg "is_atom" sIsAtom) : Cal P w K mg base 3 "is_atom" (spIsAtom K) [] := by
  refine cal_of D scIsAtom (fun _ _ _ _ _ _ us hl => match us, hl with | [_, _, _], _ => rfl) (fun vs H Q E h => ?_) (fun f cdv A outer s0 H vs Q E hr h => ?_)
  · obtain ⟨cv, b, v, C, bnd, s, rfl, _⟩ := h
    rfl
  obtain ⟨cv, b, v, C, bnd, s, rfl, hC, hb, ok, hD, hev, q⟩ := h
  refine ⟨_, (pss_cons
    (ps_set (i := 3) scIsAtom.nd rfl (Or.inl rfl) (pe_c c_spots_of hr (by decide) (by rfl) (pa_cons (pv 0) (pa_cons (pv 1) pa_nil))))
    (pss_cons
    (ps_if (pt_cmpR op_in_seq (pe_ix (ix_tupK (K := K)) (pv 2) pe_int (fun _ _ => rfl)) (pe_gc (by rfl) T.vCOMPARED) (by rfl)) (pss_one
    (ps_ret (pe_and (pe_c c_is_sum_at hr (by decide) (by rfl) (pa_cons (pv 0) (pa_cons (pv 3) (pa_cons (pe_ix (ix_tupK (K := K)) (pv 2) pe_int (fun _ _ => rfl)) pa_nil)))) (pe_one (pe_c c_is_sum_at hr (by decide) (by rfl) (pa_cons (pv 0) (pa_cons (pv 3) (pa_cons (pe_ix (ix_tupK (K := K)) (pv 2) pe_int (fun _ _ => rfl)) pa_nil)))))))) pss_nil)
    (pss_one
    (ps_ret (pe_and (pe_cmpR op_in_seq (pe_ix (ix_tupK (K := K)) (pv 2) pe_int (fun _ _ => rfl)) (pe_gc (by rfl) T.vPLACED) (by rfl)) (pe_and (pe_cmpR op_in_seq (pe_ix (ix_tupK (K := K)) (pv 2) pe_int (fun _ _ => rfl)) (pv 3) (by rfl)) (pe_one (pe_cmpR op_in_seq (pe_ix (ix_tupK (K := K)) (pv 2) pe_int (fun _ _ => rfl)) (pv 3) (by rfl))))))))), ?_⟩
  refine ⟨_, rfl, _, rfl, cv, b, C, bnd, rfl, hC, hb, ok, fun sa H1 a1 h1 => ?_⟩
  have hC1 := Dp.tups (Same.tups a1) _ (noL_castD C) hC
  have hD1 := Dp.tups (Same.tups a1) _ (noL_enc s) hD
  have q1 := q H1 a1
  cases s with
  | cmp k x y =>
    rw [enc] at hD1
    obtain ⟨t, xs, rfl, ht, da⟩ := dp_tup hD1
    obtain ⟨v0, v1, v2, rfl, g0, g1, g2⟩ := dpa3 da
    rw [dp_str g0] at ht
    refine ⟨_, rfl, t, _, 0, _, rfl, rfl, ht, rfl, _, _, rfl, .inr (T.tCOMPARED _), rfl, by decide +kernel, _, rfl, if_t (cwC k) ?_⟩
    refine ⟨_, rfl, _, rfl, _, rfl, t, _, 1, _, rfl, rfl, ht, rfl, cv, sa, v1, C, _, x, rfl, hC1, h1, g1, _, rfl, ?_⟩
    have q2 := and_q (F := fun z => Q (.bl z) H1) q1
    refine ite2 (fun e => ?_) (fun e => q2.2 (Bool.eq_false_iff.mpr e))
    exact ⟨_, rfl, _, rfl, _, rfl, t, _, 2, _, rfl, rfl, ht, rfl, cv, sa, v2, C, _, y, rfl, hC1, h1, g2, q2.1 e⟩
  | pl k x y =>
    rw [enc] at hD1
    obtain ⟨t, xs, rfl, ht, da⟩ := dp_tup hD1
    obtain ⟨v0, v1, v2, rfl, g0, g1, g2⟩ := dpa3 da
    rw [dp_str g0, dp_str g1, dp_str g2] at ht
    have hk : inV (.str (S (wd k.s))) (zPlaced.map V.str) = true ∧ said C (.pl k x y) bnd = (decide (x ∈ spots C bnd) && decide (y ∈ spots C bnd)) := by
      cases k with
      | ahead => exact ⟨by decide +kernel, by simp only [said]⟩
      | here => exact ⟨by decide +kernel, by simp only [said]⟩
      | next => cases hev
      | nexts => cases hev
    rw [hk.2] at q1
    refine ⟨_, rfl, t, _, 0, _, rfl, rfl, ht, rfl, _, _, rfl, .inr (T.tCOMPARED _), rfl, by decide +kernel, _, rfl, if_f (pwC k) ?_⟩
    refine ⟨_, rfl, t, _, 0, _, rfl, rfl, ht, rfl, _, _, rfl, .inr (T.tPLACED _), rfl, by decide +kernel, _, rfl, if_t hk.1 ?_⟩
    have q2 := and_q (F := fun z => Q (.bl z) H1) q1
    refine ⟨_, rfl, t, _, 1, _, rfl, rfl, ht, rfl, _, rfl, in_useT h1 ⟨_, rfl, ?_⟩⟩
    refine ite2 (fun e => ?_) (fun e => q2.2 (Bool.eq_false_iff.mpr e))
    exact ⟨_, rfl, t, _, 2, _, rfl, rfl, ht, rfl, _, rfl, in_useT h1 (q2.1 e)⟩
  | _ => cases hev
/-! ### is_said and what it calls -/
abbrev sAreParts : Stmt := top 21
abbrev nAreParts : List Str := ["cast", "bound", "thing", "part"]
theorem scAreParts : FnScope nAreParts ["cast", "bound", "thing"] (fnScope sAreParts) := fnScope_by (by decide +kernel)
abbrev sIsOverPlaces : Stmt := top 22
abbrev nIsOverPlaces : List Str := ["cast", "thing", "word", "spots"]
theorem scIsOverPlaces : FnScope nIsOverPlaces ["cast", "thing"] (fnScope sIsOverPlaces) := fnScope_by (by decide +kernel)
abbrev sIsSaid : Stmt := top 23
abbrev nIsSaid : List Str := ["cast", "bound", "thing", "word"]
theorem scIsSaid : FnScope nIsSaid ["cast", "bound", "thing"] (fnScope sIsSaid) := fnScope_by (by decide +kernel)
/-- for sayings to n deep -/
def spSaid (K : PySem.W.Frag) (n : Nat) : Sp := fun vs H Q _ => ∃ (cv : V) (b : Addr) (v : V) (C : Cast) (bnd : List (List Nat)) (s : Say), vs = [cv, .ref b, v] ∧ Dp K H cv (castD C) ∧ SqT K H b (strV bnd) ∧ CbOk C bnd ∧ Dp K H v (enc s) ∧ sOk s = true ∧ dep s ≤ n ∧ dep s ≤ 20 ∧
  ∀ H', Same H H' → Q (.bl (said C s bnd)) H'
def spParts (K : PySem.W.Frag) (n : Nat) : Sp := fun vs H Q _ => ∃ (cv : V) (b t : Addr) (C : Cast) (bnd : List (List Nat)) (ss : List Say) (ws : List V), vs = [cv, .ref b, .ref t] ∧ Dp K H cv (castD C) ∧ SqT K H b (strV bnd) ∧ CbOk C bnd ∧ SqT K H t ws ∧ DpAll K H ws (ss.map enc) ∧ ss.length ≤ 4 ∧ (∀ s ∈ ss, sOk s = true ∧ dep s ≤ n ∧ dep s ≤ 20) ∧
  ∀ H', Same H H' → Q (.bl (saidAll C ss bnd)) H'
theorem ok_parts {n : Nat} (T : Tx K mg A) (c_is_said : Cal P w K mg base (4 + 2 * n) "is_said" (spSaid K n) []) (D : Dfn K mg "are_parts" sAreParts) : Cal P w K mg base (4 + 2 * n + 1) "are_parts" (spParts K n) [] := by
  refine cal_of D scAreParts (fun _ _ _ _ _ _ us hl => match us, hl with | [_, _, _], _ => rfl) (fun vs H Q E h => ?_) (fun f cdv A outer s0 H vs Q E hr h => ?_)
  · obtain ⟨cv, b, t, C, bnd, ss, ws, rfl, _⟩ := h
    rfl
  obtain ⟨cv, b, t, C, bnd, ss, ws, rfl, hC, hb, ok, ht, da, l4, hss, q⟩ := h
  refine ⟨_, (pss_one
    (ps_ret (pe_and (pe_callB call_isi (by rfl) T.isinstance_ (by decide +kernel) (pa_cons (pv 2) (pa_cons (pe_bltn (v := .ty "tuple") (u := .type "tuple") (by rfl) T.tuple_ (by decide +kernel) rfl) pa_nil))) (pe_one (pe_callB (cr_all rfl) (by rfl) T.all_ (by decide +kernel) (pa_cons (pe_lc (own := [("part", 3)]) (g := gName 3) (tt := tYes) rfl scAreParts.nd (pi_tup (pv 2)) (blkOk_by (own := [("part", 3)]) (N := nAreParts) (sc := fnScope sAreParts) (by decide +kernel)) (fun _ _ _ _ _ => pg_name (i := 3) scAreParts.nd rfl (Or.inl rfl)) (fun _ _ _ _ _ => pts_nil) (fun _ _ _ _ _ => (pe_c c_is_said hr (Nat.le_refl _) (by rfl) (pa_cons (pv 0) (pa_cons (pv 1) (pa_cons (pv 3) pa_nil)))))) pa_nil)))))), ?_⟩
  have lws : ws.length = ss.length := by rw [DpAll.length da, List.length_map]
  refine ⟨_, rfl, _, _, _, _, true, rfl, .ty _, sqT_ty ht, kit_ty (by decide +kernel), _, rfl, iteT ?_⟩
  refine ⟨_, rfl, t, rfl, ⟨_, ht⟩, fun D nD => lc_tup (K := K) (a := t) (xs := ws) (fun i H' => H' D = some (.lst (((ss.take i).map fun s => said C s bnd).map V.bl)) ∧ Same H H') ⟨by rw [upd_same]; rfl, same_new nD⟩ (fun i H' _ h => Same.sqT h.2 ht) ?_ ?_⟩
  · rintro i x H1 hx ⟨hD, sm⟩
    obtain ⟨d, hd, hxd⟩ := DpAll.get da hx
    rw [List.getElem?_map] at hd
    obtain ⟨s, hs, rfl⟩ : ∃ s, ss[i]? = some s ∧ enc s = d := by
      cases e : ss[i]? with
      | none =>
        rw [e] at hd
        cases hd
      | some s =>
        rw [e] at hd
        exact ⟨s, rfl, Option.some.inj hd⟩
    have hms := hss s (List.mem_of_getElem? hs)
    have il : i < ss.length := (List.getElem?_eq_some_iff.mp hs).1
    refine ⟨rfl, _, rfl, _, rfl, _, rfl, cv, b, x, C, bnd, s, rfl, Dp.tups (Same.tups sm) _ (noL_castD C) hC, Same.sqT sm hb, ok, Dp.tups (Same.tups sm) _ (noL_enc s) hxd, hms.1, hms.2.1, hms.2.2, fun H2 a2 => ?_⟩
    refine ⟨_, a2 _ _ hD, sz_lt (by rw [List.length_map, List.length_map, List.length_take]; omega), ?_, Same.updN (sm.trans a2) nD⟩
    rw [upd_same, List.take_add_one, hs, List.map_append, List.map_append]
    rfl
  · rintro H1 ⟨hD, sm⟩
    rw [lws, List.take_length] at hD
    refine ⟨D, _, rfl, SqL.of hD, ?_⟩
    rw [saidAll_map]
    exact q H1 sm
def spOver (K : PySem.W.Frag) (n : Nat) : Sp := fun vs H Q _ => ∃ (cv v : V) (C : Cast) (s : Say), vs = [cv, v] ∧ Dp K H cv (castD C) ∧ CbOk C [] ∧ Dp K H v (enc s) ∧ sOk s = true ∧ dep s ≤ n + 1 ∧ dep s ≤ 20 ∧ (s.c = 5 ∨ s.c = 6 ∨ (∃ p q, s = .pl .next p q) ∨ ∃ p q, s = .pl .nexts p q) ∧
  ∀ H', Same H H' → Q (.bl (said C s [])) H'
theorem CbOk.to {C : Cast} {b c : List (List Nat)} (o : CbOk C b) (h : ∀ z ∈ c, nameOk z = true) (l : c.length ≤ 15) : CbOk C c := ⟨o.rows, o.places, o.numbers, h, o.r1, o.rl, o.pl, o.nl, l⟩
theorem ok_over {n : Nat} (T : Tx K mg A) (c_is_said : Cal P w K mg base (4 + 2 * n) "is_said" (spSaid K n) []) (c_is_new : Cal P w K mg base 2 "is_new" (spIsNew K) []) (c_spots_of : Cal P w K mg base 1 "spots_of" (spSpots K) []) (D : Dfn K mg "is_over_places" sIsOverPlaces) :
    Cal P w K mg base (4 + 2 * n + 1) "is_over_places" (spOver K n) [] := by
  refine cal_of D scIsOverPlaces (fun _ _ _ _ _ _ us hl => match us, hl with | [_, _], _ => rfl) (fun vs H Q E h => ?_) (fun f cdv A outer s0 H vs Q E hr h => ?_)
  · obtain ⟨cv, v, C, s, rfl, _⟩ := h
    rfl
  obtain ⟨cv, v, C, s, rfl, hC, ok, hD, hs, hd, hd20, hc, q⟩ := h
  have hr4 : Room 4 _ := hr.mono (Nat.le_add_right 4 (2 * n))
  refine ⟨_, (pss_cons
    (ps_set (i := 2) scIsOverPlaces.nd rfl (Or.inl rfl) (pe_ix (ix_tupK (K := K)) (pv 1) pe_int (fun _ _ => rfl)))
    (pss_cons
    (ps_if (pt_cmpR op_eq (pv 2) pe_str (nomark _)) (pss_one
    (ps_ret (pe_and (pe_cmpR op_eq (pe_callB call_len_seq (by rfl) T.len_ (by decide +kernel) (pa_cons (pv 1) pa_nil)) pe_int (nomark _)) (pe_and (pe_c c_is_new hr4 (by decide) (by rfl) (pa_cons (pv 0) (pa_cons (pe_ix (ix_tupK (K := K)) (pv 1) pe_int (fun _ _ => rfl)) pa_nil))) (pe_one (pe_c c_is_said hr (Nat.le_refl _) (by rfl) (pa_cons (pv 0) (pa_cons (pe_tup (pa_cons (pe_ix (ix_tupK (K := K)) (pv 1) pe_int (fun _ _ => rfl)) pa_nil)) (pa_cons (pe_ix (ix_tupK (K := K)) (pv 1) pe_int (fun _ _ => rfl)) pa_nil))))))))) pss_nil)
    (pss_cons
    (ps_if (pt_cmpR op_eq (pv 2) pe_str (nomark _)) (pss_cons
    (ps_if (PW.pt (pw_or (pt_cmpR op_ne (pe_callB call_len_seq (by rfl) T.len_ (by decide +kernel) (pa_cons (pv 1) pa_nil)) pe_int (nomark _)) (pw_or (pt_not (pt_val (pe_c c_is_new hr4 (by decide) (by rfl) (pa_cons (pv 0) (pa_cons (pe_ix (ix_tupK (K := K)) (pv 1) pe_int (fun _ _ => rfl)) pa_nil))))) (pw_or (pt_not (pt_val (pe_c c_is_new hr4 (by decide) (by rfl) (pa_cons (pv 0) (pa_cons (pe_ix (ix_tupK (K := K)) (pv 1) pe_int (fun _ _ => rfl)) pa_nil))))) (pw_or1 (pt_cmpR op_eq (pe_ix (ix_tupK (K := K)) (pv 1) pe_int (fun _ _ => rfl)) (pe_ix (ix_tupK (K := K)) (pv 1) pe_int (fun _ _ => rfl)) (nomark _))))))) (pss_one
    (ps_ret pe_bl)) pss_nil)
    (pss_one
    (ps_ret (pe_c c_is_said hr (Nat.le_refl _) (by rfl) (pa_cons (pv 0) (pa_cons (pe_tup (pa_cons (pe_ix (ix_tupK (K := K)) (pv 1) pe_int (fun _ _ => rfl)) (pa_cons (pe_ix (ix_tupK (K := K)) (pv 1) pe_int (fun _ _ => rfl)) pa_nil))) (pa_cons (pe_ix (ix_tupK (K := K)) (pv 1) pe_int (fun _ _ => rfl)) pa_nil))))))) pss_nil)
    (pss_cons
    (ps_if (pt_cmpR op_ne (pe_callB call_len_seq (by rfl) T.len_ (by decide +kernel) (pa_cons (pv 1) pa_nil)) pe_int (nomark _)) (pss_one
    (ps_ret pe_bl)) pss_nil)
    (pss_cons
    (ps_if (pt_cmpR op_eq (pv 2) pe_str (nomark _)) (pss_cons
    (ps_set (i := 3) scIsOverPlaces.nd rfl (Or.inl rfl) (pe_c c_spots_of hr4 (by decide) (by rfl) (pa_cons (pv 0) (pa_cons (pe_tup pa_nil) pa_nil))))
    (pss_one
    (ps_ret (pe_and (pe_cmpR op_in_seq (pe_ix (ix_tupK (K := K)) (pv 1) pe_int (fun _ _ => rfl)) (pv 3) (by rfl)) (pe_one (pe_cmpR op_in_seq (pe_ix (ix_tupK (K := K)) (pv 1) pe_int (fun _ _ => rfl)) (pv 3) (by rfl))))))) pss_nil)
    (pss_one
    (ps_ret (pe_and (pe_cmpR op_eq (pv 2) pe_str (nomark _)) (pe_and (pe_cmpR op_in_seq (pe_ix (ix_tupK (K := K)) (pv 1) pe_int (fun _ _ => rfl)) (pe_ix (ix_tupK (K := K)) (pv 0) pe_int (fun _ _ => rfl)) (by rfl)) (pe_one (pe_cmpR op_in_seq (pe_ix (ix_tupK (K := K)) (pv 1) pe_int (fun _ _ => rfl)) (pe_gc (by rfl) T.vPASSED_ON) (by rfl)))))))))))), ?_⟩
  cases s with
  | ea x s =>
    have hok : nameOk x = true ∧ sOk s = true := by simpa [sOk] using hs
    have hdd : dep s ≤ n ∧ dep s ≤ 20 := by
      simp only [dep] at hd hd20
      exact ⟨by omega, by omega⟩
    rw [enc] at hD
    obtain ⟨t, xs, rfl, ht, da⟩ := dp_tup hD
    obtain ⟨v0, v1, v2, rfl, g0, g1, g2⟩ := dpa3 da
    rw [dp_str g0, dp_str g1] at ht
    refine ⟨_, rfl, t, _, 0, _, rfl, rfl, ht, rfl, _, rfl, rfl, _, rfl, if_t (by decide +kernel) ?_⟩
    refine ⟨_, rfl, t, _, rfl, .inr ht, rfl, _, rfl, if_t rfl ⟨_, rfl, _, rfl, t, _, 1, _, rfl, rfl, ht, rfl, cv, C, x, rfl, hC, hok.1, ok.rl, ok.pl, ok.nl, fun H1 a1 => ⟨_, rfl, ?_⟩⟩⟩
    have ht1 := Same.sqT a1 ht
    refine ite2 (fun e => ?_) (fun e => ?_)
    · refine ⟨_, rfl, _, rfl, t, _, 1, _, rfl, rfl, ht1, rfl, sz_small (show 1 ≤ 16000000 by decide), fun u nu => ?_⟩
      have a2 := same_new (o := .tup [V.str (S x)]) nu
      refine ⟨_, rfl, t, _, 2, _, rfl, rfl, Same.sqT a2 ht1, rfl, cv, u, v2, C, [x], s, rfl, Dp.tups (Same.tups (a1.trans a2)) _ (noL_castD C) hC, SqT.of upd_same, ok.to (fun z hz => by rw [List.mem_singleton.mp hz]; exact hok.1) (by show 1 ≤ 15; decide), Dp.tups (Same.tups (a1.trans a2)) _ (noL_enc s) g2, hok.2, hdd.1, hdd.2, fun H3 a3 => ?_⟩
      have := q H3 (a1.trans (a2.trans a3))
      simp only [said, List.isEmpty_nil, Bool.true_and, e] at this
      exact this
    · have := q H1 a1
      simp only [said, List.isEmpty_nil, Bool.true_and, Bool.eq_false_iff.mpr e, Bool.false_and] at this
      exact this
  | pa x y s =>
    have hok : (nameOk x = true ∧ nameOk y = true) ∧ sOk s = true := by simpa [sOk] using hs
    have hdd : dep s ≤ n ∧ dep s ≤ 20 := by
      simp only [dep] at hd hd20
      exact ⟨by omega, by omega⟩
    rw [enc] at hD
    obtain ⟨t, xs, rfl, ht, da⟩ := dp_tup hD
    obtain ⟨v0, v1, v2, v3, rfl, g0, g1, g2, g3⟩ := dpa4 da
    rw [dp_str g0, dp_str g1, dp_str g2] at ht
    refine ⟨_, rfl, t, _, 0, _, rfl, rfl, ht, rfl, _, rfl, rfl, _, rfl, if_f (by decide +kernel) ?_⟩
    refine ⟨_, rfl, rfl, _, rfl, if_t (by decide +kernel) ?_⟩
    refine ⟨_, rfl, t, _, rfl, .inr ht, rfl, _, rfl, if_f rfl ⟨_, rfl, _, rfl, t, _, 1, _, rfl, rfl, ht, rfl, cv, C, x, rfl, hC, hok.1.1, ok.rl, ok.pl, ok.nl, fun H1 a1 => ⟨_, rfl, ?_⟩⟩⟩
    have q1 := q H1 a1
    have ht1 := Same.sqT a1 ht
    cases e1 : isNew C x with
    | false =>
      simp only [said, List.isEmpty_nil, Bool.true_and, e1, Bool.false_and] at q1
      exact iteT q1
    | true =>
      refine iteF ⟨_, rfl, _, rfl, t, _, 2, _, rfl, rfl, ht1, rfl, cv, C, y, rfl, Dp.tups (Same.tups a1) _ (noL_castD C) hC, hok.1.2, ok.rl, ok.pl, ok.nl, fun H2 a2 => ⟨_, rfl, ?_⟩⟩
      have q2 := q H2 (a1.trans a2)
      have ht2 := Same.sqT a2 ht1
      cases e2 : isNew C y with
      | false =>
        simp only [said, List.isEmpty_nil, Bool.true_and, e1, e2, Bool.false_and] at q2
        exact iteT q2
      | true =>
        refine iteF ⟨_, rfl, t, _, 1, _, rfl, rfl, ht2, rfl, _, rfl, t, _, 2, _, rfl, rfl, ht2, rfl, rfl, _, rfl, ?_⟩
        refine ite2 (fun e3 => ?_) (fun e3 => ?_)
        · simp only [said, List.isEmpty_nil, Bool.true_and, e1, e2, e3, Bool.not_true, Bool.false_and] at q2
          exact q2
        · refine ⟨_, rfl, _, rfl, t, _, 1, _, rfl, rfl, ht2, rfl, _, rfl, t, _, 2, _, rfl, rfl, ht2, rfl, sz_small (show 2 ≤ 16000000 by decide), fun u nu => ?_⟩
          have a3 := same_new (o := .tup [V.str (S x), V.str (S y)]) nu
          have A3 := a1.trans (a2.trans a3)
          refine ⟨_, rfl, t, _, 3, _, rfl, rfl, Same.sqT a3 ht2, rfl, cv, u, v3, C, [x, y], s, rfl, Dp.tups (Same.tups A3) _ (noL_castD C) hC, SqT.of upd_same, ok.to (fun z hz => ?_) (by show 2 ≤ 15; decide), Dp.tups (Same.tups A3) _ (noL_enc s) g3, hok.2, hdd.1, hdd.2, fun H4 a4 => ?_⟩
          · rcases List.mem_cons.mp hz with h | h
            · rw [h]
              exact hok.1.1
            · rw [List.mem_singleton.mp h]
              exact hok.1.2
          · have := q H4 (A3.trans a4)
            simp only [said, List.isEmpty_nil, Bool.true_and, e1, e2, Bool.eq_false_iff.mpr e3, Bool.not_false] at this
            exact this
  | pl k x y =>
    rw [enc] at hD
    obtain ⟨t, xs, rfl, ht, da⟩ := dp_tup hD
    obtain ⟨v0, v1, v2, rfl, g0, g1, g2⟩ := dpa3 da
    rw [dp_str g0, dp_str g1, dp_str g2] at ht
    obtain ⟨ca, ra, pa, na, rfl, hca, hR, hP, hN⟩ := dp_cast hC
    rcases hc with h | h | ⟨p', q', e⟩ | ⟨p', q', e⟩
    · cases h
    · cases h
    · injection e with ek e1 e2
      subst ek
      refine ⟨_, rfl, t, _, 0, _, rfl, rfl, ht, rfl, _, rfl, rfl, _, rfl, if_f (by decide +kernel) ?_⟩
      refine ⟨_, rfl, rfl, _, rfl, if_f (by decide +kernel) ?_⟩
      refine ⟨_, rfl, t, _, rfl, .inr ht, rfl, _, rfl, if_f rfl ?_⟩
      refine ⟨_, rfl, rfl, _, rfl, if_t (by decide +kernel) ?_⟩
      refine ⟨_, rfl, Nat.zero_le _, fun u nu => ?_⟩
      have a1 := same_new (o := .tup []) nu
      refine ⟨.ref ca, u, C, [], rfl, Dp.tups (Same.tups a1) _ (noL_castD C) hC, SqT.of upd_same, ok, fun sa H2 a2 h2 => ?_⟩
      have q2 := q H2 (a1.trans a2)
      simp only [said, List.isEmpty_nil, Bool.true_and] at q2
      have q3 := and_q (F := fun z => Q (.bl z) H2) q2
      have ht2 := Same.sqT a2 (Same.sqT a1 ht)
      refine ⟨_, rfl, t, _, 1, _, rfl, rfl, ht2, rfl, _, rfl, in_useT h2 ⟨_, rfl, ?_⟩⟩
      refine ite2 (fun e => ?_) (fun e => q3.2 (Bool.eq_false_iff.mpr e))
      exact ⟨_, rfl, t, _, 2, _, rfl, rfl, ht2, rfl, _, rfl, in_useT h2 (q3.1 e)⟩
    · injection e with ek e1 e2
      subst ek
      refine ⟨_, rfl, t, _, 0, _, rfl, rfl, ht, rfl, _, rfl, rfl, _, rfl, if_f (by decide +kernel) ?_⟩
      refine ⟨_, rfl, rfl, _, rfl, if_f (by decide +kernel) ?_⟩
      refine ⟨_, rfl, t, _, rfl, .inr ht, rfl, _, rfl, if_f rfl ?_⟩
      refine ⟨_, rfl, rfl, _, rfl, if_f (by decide +kernel) ?_⟩
      refine ⟨_, rfl, rfl, _, rfl, if_t (by decide +kernel) ?_⟩
      have q2 := q H (Same.refl H)
      simp only [said, List.isEmpty_nil, Bool.true_and] at q2
      have q3 := and_q (F := fun z => Q (.bl z) H) q2
      refine ⟨_, rfl, t, _, 1, _, rfl, rfl, ht, rfl, _, rfl, ca, _, 0, _, rfl, rfl, hca, rfl, in_useT hR ⟨_, rfl, ?_⟩⟩
      refine ite2 (fun e => ?_) (fun e => q3.2 (Bool.eq_false_iff.mpr e))
      exact ⟨_, rfl, t, _, 2, _, rfl, rfl, ht, rfl, _, _, rfl, .inr (T.tPASSED_ON _), rfl, by decide +kernel, q3.1 e⟩
  | cmp k a b => exact hc.elim (fun h => nomatch h) fun h => h.elim (fun h => nomatch h) fun h => h.elim (fun ⟨_, _, h⟩ => nomatch h) fun ⟨_, _, h⟩ => nomatch h
  | no s => exact hc.elim (fun h => nomatch h) fun h => h.elim (fun h => nomatch h) fun h => h.elim (fun ⟨_, _, h⟩ => nomatch h) fun ⟨_, _, h⟩ => nomatch h
  | jn k ss => exact hc.elim (fun h => nomatch h) fun h => h.elim (fun h => nomatch h) fun h => h.elim (fun ⟨_, _, h⟩ => nomatch h) fun ⟨_, _, h⟩ => nomatch h
  | iff s u => exact hc.elim (fun h => nomatch h) fun h => h.elim (fun h => nomatch h) fun h => h.elim (fun ⟨_, _, h⟩ => nomatch h) fun ⟨_, _, h⟩ => nomatch h
end
end Ep

/-! 18. is_said, is_saying. -/
namespace Ep
open PySem PySem.Spec PyProof.Rows L2 SX
open C8 (Cal Met Mak Def cal0 met0 mak0 pe_c pe_mk pe_mt pe_mt0 fnBody fnScope fnArgs fnScope_by pe_gc pss_cut)
theorem pwP {k : Pw} (h : k = .ahead ∨ k = .here) : inV (.str (S (wd k.s))) (zPlaced.map V.str) = true := by
  rcases h with rfl | rfl <;> decide +kernel
section
variable {P : Program} {w : World} {K : PySem.W.Frag} {mg : Str → Option Value} {base : Heap} {A : Ad}
theorem ok_said (T : Tx K mg A) (c_is_new : Cal P w K mg base 2 "is_new" (spIsNew K) []) (c_spots_of : Cal P w K mg base 1 "spots_of" (spSpots K) []) (c_is_atom : Cal P w K mg base 3 "is_atom" (spIsAtom K) []) (DP : Dfn K mg "are_parts" sAreParts) (DO : Dfn K mg "is_over_places" sIsOverPlaces) (D : Dfn K mg "is_said" sIsSaid) :
    ∀ n, Cal P w K mg base (4 + 2 * n) "is_said" (spSaid K n) []
  | 0 => cal_none (ps := ["cast", "bound", "thing"]) D (fun _ _ _ _ _ _ us hl => match us, hl with | [_, _, _], _ => rfl) (fun vs H Q E h => by
    obtain ⟨cv, b, v, C, bnd, s, _, _, _, _, _, _, h, _⟩ := h
    have := dep_pos s
    omega)
  | n + 1 => by
    have c_is_said := ok_said T c_is_new c_spots_of c_is_atom DP DO D n
    have c_are_parts := ok_parts T c_is_said DP
    have c_is_over_places := ok_over T c_is_said c_is_new c_spots_of DO
    refine cal_of (k := 4 + 2 * n + 1) D scIsSaid (fun _ _ _ _ _ _ us hl => match us, hl with | [_, _, _], _ => rfl) (fun vs H Q E h => ?_) (fun f cdv A outer s0 H vs Q E hr h => ?_)
    · obtain ⟨cv, b, v, C, bnd, s, rfl, _⟩ := h
      rfl
    obtain ⟨cv, b, v, C, bnd, s, rfl, hC, hb, ok, hD, hs, hd, hd20, q⟩ := h
    have hr4 : Room 4 _ := hr.mono (by omega)
    refine ⟨_, (pss_cons
    (ps_if (PW.pt (pw_or (pt_not (pt_val (pe_callB call_isi (by rfl) T.isinstance_ (by decide +kernel) (pa_cons (pv 2) (pa_cons (pe_bltn (v := .ty "tuple") (u := .type "tuple") (by rfl) T.tuple_ (by decide +kernel) rfl) pa_nil))))) (pw_or (pt_cmpR (op_eqD hr.units) (pv 2) (pe_tup pa_nil) (nomark _)) (pw_or1 (pt_not (pt_val (pe_callB call_isi (by rfl) T.isinstance_ (by decide +kernel) (pa_cons (pe_ix (ix_tupK (K := K)) (pv 2) pe_int (fun _ _ => rfl)) (pa_cons (pe_bltn (v := .ty "str") (u := .type "str") (by rfl) T.str_ (by decide +kernel) rfl) pa_nil))))))))) (pss_one
    (ps_ret pe_bl)) pss_nil)
    (pss_cons
    (ps_set (i := 3) scIsSaid.nd rfl (Or.inl rfl) (pe_ix (ix_tupK (K := K)) (pv 2) pe_int (fun _ _ => rfl)))
    (pss_cons
    (ps_if (pt_cmpR op_eq (pv 3) pe_str (nomark _)) (pss_one
    (ps_ret (pe_and (pe_cmpR op_eq (pe_callB call_len_seq (by rfl) T.len_ (by decide +kernel) (pa_cons (pv 2) pa_nil)) pe_int (nomark _)) (pe_one (pe_c c_is_said hr (Nat.le_succ _) (by rfl) (pa_cons (pv 0) (pa_cons (pv 1) (pa_cons (pe_ix (ix_tupK (K := K)) (pv 2) pe_int (fun _ _ => rfl)) pa_nil)))))))) pss_nil)
    (pss_cons
    (ps_if (pt_cmpR op_in_seq (pv 3) (pe_gc (by rfl) T.vJOINED) (by rfl)) (pss_one
    (ps_ret (pe_and (pe_cmpR op_eq (pe_callB call_len_seq (by rfl) T.len_ (by decide +kernel) (pa_cons (pv 2) pa_nil)) pe_int (nomark _)) (pe_one (pe_c c_are_parts hr (Nat.le_refl _) (by rfl) (pa_cons (pv 0) (pa_cons (pv 1) (pa_cons (pe_ix (ix_tupK (K := K)) (pv 2) pe_int (fun _ _ => rfl)) pa_nil)))))))) pss_nil)
    (pss_cons
    (ps_if (pt_cmpR op_eq (pv 3) pe_str (nomark _)) (pss_one
    (ps_ret (pe_and (pe_cmpR op_eq (pe_callB call_len_seq (by rfl) T.len_ (by decide +kernel) (pa_cons (pv 2) pa_nil)) pe_int (nomark _)) (pe_one (pe_c c_are_parts hr (Nat.le_refl _) (by rfl) (pa_cons (pv 0) (pa_cons (pv 1) (pa_cons (pe_slice sl_tupA (pv 2) (po_some pe_int) po_none) pa_nil)))))))) pss_nil)
    (pss_cons
    (ps_if (PW.pt (pw_or (pt_cmpR op_in_seq (pv 3) (pe_gc (by rfl) T.vCOMPARED) (by rfl)) (pw_or1 (pt_cmpR op_in_seq (pv 3) (pe_gc (by rfl) T.vPLACED) (by rfl))))) (pss_one
    (ps_ret (pe_and (pe_cmpR op_eq (pe_callB call_len_seq (by rfl) T.len_ (by decide +kernel) (pa_cons (pv 2) pa_nil)) pe_int (nomark _)) (pe_one (pe_c c_is_atom hr4 (by decide) (by rfl) (pa_cons (pv 0) (pa_cons (pv 1) (pa_cons (pv 2) pa_nil)))))))) pss_nil)
    (pss_one
    (ps_ret (pe_and (pe_cmpR (op_eqD hr.units) (pv 1) (pe_tup pa_nil) (nomark _)) (pe_one (pe_c c_is_over_places hr (Nat.le_refl _) (by rfl) (pa_cons (pv 0) (pa_cons (pv 2) pa_nil))))))))))))), ?_⟩
    obtain ⟨t, xs, rfl, ht, da⟩ : ∃ t xs, v = .ref t ∧ SqT K H t xs ∧ ∃ ds, enc s = .tuple ds ∧ DpAll K H xs ds := by
      obtain ⟨r, e⟩ := enc_head s
      rw [e] at hD
      obtain ⟨t, xs, rfl, ht, da⟩ := dp_tup hD
      exact ⟨t, xs, rfl, ht, _, e, da⟩
    obtain ⟨ds, eds, da⟩ := da
    refine ⟨_, rfl, _, _, _, _, true, rfl, .ty _, sqT_ty ht, kit_ty (by decide +kernel), _, rfl, iteF ⟨_, rfl, Nat.zero_le _, fun u nu => ?_⟩⟩
    have a1 := same_new (o := .tup []) nu
    have hD1 := Dp.tups (Same.tups a1) _ (noL_enc s) hD
    refine ⟨enc s, .tuple [], hD1, dp_nil (SqT.of upd_same), shaped_enc hs hd20, shaped_nil, _, rfl, if_f (eqv_enc_nil s) ?_⟩
    have hC1 := Dp.tups (Same.tups a1) _ (noL_castD C) hC
    have hb1 := Same.sqT a1 hb
    replace q : ∀ H', Same (upd H u (.tup [])) H' → Q (.bl (said C s bnd)) H' := fun H' a => q H' (a1.trans a)
    have ht1 := Same.sqT a1 ht
    have da1 : DpAll K (upd H u (.tup [])) xs ds := DpAll.tups (Same.tups a1) _ (by have := noL_enc s; rw [eds] at this; simpa [noL] using this) da
    clear hC hb hD ht da nu
    generalize upd H u (.tup []) = H1 at hD1 hC1 hb1 q ht1 da1
    cases s with
    | cmp k x y =>
      rw [enc] at eds
      cases eds
      obtain ⟨v0, v1, v2, rfl, g0, g1, g2⟩ := dpa3 da1
      rw [dp_str g0] at ht1
      refine ⟨_, rfl, t, _, 0, _, rfl, rfl, ht1, rfl, _, _, _, _, true, rfl, .ty _, .base (.str _), kit_ty (by decide +kernel), _, rfl, iteF ?_⟩
      refine ⟨_, rfl, t, _, 0, _, rfl, rfl, ht1, rfl, _, rfl, rfl, _, rfl, if_f (cwNot k) ?_⟩
      refine ⟨_, rfl, _, _, rfl, .inr (T.tJOINED _), rfl, by decide +kernel, _, rfl, if_f (cwJ k) ?_⟩
      refine ⟨_, rfl, rfl, _, rfl, if_f (cwIf k) ?_⟩
      refine ⟨_, rfl, _, _, rfl, .inr (T.tCOMPARED _), rfl, by decide +kernel, _, rfl, if_t (cwC k) (iteT ?_)⟩
      refine ⟨_, rfl, t, _, rfl, .inr ht1, rfl, _, rfl, if_t rfl ⟨_, rfl, _, rfl, _, rfl, cv, b, _, C, bnd, _, rfl, hC1, hb1, ok, hD1, rfl, q⟩⟩
    | pl k x y =>
      rw [enc] at eds
      cases eds
      obtain ⟨v0, v1, v2, rfl, g0, g1, g2⟩ := dpa3 da1
      rw [dp_str g0] at ht1
      refine ⟨_, rfl, t, _, 0, _, rfl, rfl, ht1, rfl, _, _, _, _, true, rfl, .ty _, .base (.str _), kit_ty (by decide +kernel), _, rfl, iteF ?_⟩
      refine ⟨_, rfl, t, _, 0, _, rfl, rfl, ht1, rfl, _, rfl, rfl, _, rfl, if_f (pwNot k) ?_⟩
      refine ⟨_, rfl, _, _, rfl, .inr (T.tJOINED _), rfl, by decide +kernel, _, rfl, if_f (pwJ k) ?_⟩
      refine ⟨_, rfl, rfl, _, rfl, if_f (pwIf k) ?_⟩
      refine ⟨_, rfl, _, _, rfl, .inr (T.tCOMPARED _), rfl, by decide +kernel, _, rfl, if_f (pwC k) ?_⟩
      refine ⟨_, rfl, _, _, rfl, .inr (T.tPLACED _), rfl, by decide +kernel, _, rfl, ?_⟩
      have nxt : (k = .next ∨ k = .nexts) → inV (.str (S (wd k.s))) (zPlaced.map V.str) = false := by
        rintro (rfl | rfl) <;> decide +kernel
      have fin : (k = .next ∨ k = .nexts) → ((∃ p q, Say.pl k x y = .pl .next p q) ∨ ∃ p q, Say.pl k x y = .pl .nexts p q) := by
        rintro (rfl | rfl)
        · exact .inl ⟨_, _, rfl⟩
        · exact .inr ⟨_, _, rfl⟩
      have sb : (k = .next ∨ k = .nexts) → bnd ≠ [] → said C (.pl k x y) bnd = false := by
        rintro (rfl | rfl) hne
        · cases bnd with
          | nil => exact absurd rfl hne
          | cons a r => simp [said]
        · cases bnd with
          | nil => exact absurd rfl hne
          | cons a r => simp [said]
      by_cases hk : k = .ahead ∨ k = .here
      · refine if_t (pwP hk) ?_
        exact ⟨_, rfl, t, _, rfl, .inr ht1, rfl, _, rfl, if_t rfl ⟨_, rfl, _, rfl, _, rfl, cv, b, _, C, bnd, _, rfl, hC1, hb1, ok, hD1, (by rcases hk with rfl | rfl <;> rfl), q⟩⟩
      · have hk' : k = .next ∨ k = .nexts := by cases k <;> simp_all
        refine if_f (nxt hk') ?_
        refine ⟨_, rfl, Nat.zero_le _, fun u2 nu2 => ?_⟩
        have a2 := same_new (o := .tup []) nu2
        refine ⟨strsD bnd, .tuple [], dp_strs_mk (Same.sqT a2 hb1), dp_nil (SqT.of upd_same), shaped_strs ok.bds, shaped_nil, _, rfl, ?_⟩
        rw [eqv_nil]
        refine ite2 (fun e => ?_) (fun e => ?_)
        · have eb : bnd = [] := List.isEmpty_iff.mp e
          subst eb
          exact ⟨_, rfl, _, rfl, cv, _, C, _, rfl, Dp.tups (Same.tups a2) _ (noL_castD C) hC1, ok, Dp.tups (Same.tups a2) _ (noL_enc _) hD1, hs, hd, hd20, .inr (.inr (fin hk')), fun H' a => q H' (a2.trans a)⟩
        · have := q _ a2
          rw [sb hk' (fun z => e (by rw [z]; rfl))] at this
          exact this
    | no s =>
      have hok : sOk s = true := by simpa [sOk] using hs
      have hdd : dep s ≤ n ∧ dep s ≤ 20 := by
        simp only [dep] at hd hd20
        exact ⟨by omega, by omega⟩
      rw [enc] at eds
      cases eds
      obtain ⟨v0, v1, rfl, g0, g1⟩ := dpa2 da1
      rw [dp_str g0] at ht1
      refine ⟨_, rfl, t, _, 0, _, rfl, rfl, ht1, rfl, _, _, _, _, true, rfl, .ty _, .base (.str _), kit_ty (by decide +kernel), _, rfl, iteF ?_⟩
      refine ⟨_, rfl, t, _, 0, _, rfl, rfl, ht1, rfl, _, rfl, rfl, _, rfl, if_t (by decide +kernel) ?_⟩
      simp only [said] at q
      exact ⟨_, rfl, t, _, rfl, .inr ht1, rfl, _, rfl, if_t rfl ⟨_, rfl, _, rfl, _, rfl, t, _, 1, _, rfl, rfl, ht1, rfl, cv, b, v1, C, bnd, s, rfl, hC1, hb1, ok, g1, hok, hdd.1, hdd.2, q⟩⟩
    | jn k ss =>
      have hok : ss.length ≤ 4 ∧ sOkAll ss = true := by simpa [sOk] using hs
      have hdd : ∀ s ∈ ss, sOk s = true ∧ dep s ≤ n ∧ dep s ≤ 20 := fun s hm => by
        simp only [dep] at hd hd20
        have := depAll_le.mp (Nat.le_refl _) s hm
        exact ⟨sOkAll_iff.mp hok.2 s hm, by omega, by omega⟩
      rw [enc, encAll_map] at eds
      cases eds
      obtain ⟨v0, v1, rfl, g0, g1⟩ := dpa2 da1
      rw [dp_str g0] at ht1
      obtain ⟨ta, ws, rfl, hws, dws⟩ := dp_tup g1
      refine ⟨_, rfl, t, _, 0, _, rfl, rfl, ht1, rfl, _, _, _, _, true, rfl, .ty _, .base (.str _), kit_ty (by decide +kernel), _, rfl, iteF ?_⟩
      refine ⟨_, rfl, t, _, 0, _, rfl, rfl, ht1, rfl, _, rfl, rfl, _, rfl, if_f (jwNot k) ?_⟩
      refine ⟨_, rfl, _, _, rfl, .inr (T.tJOINED _), rfl, by decide +kernel, _, rfl, if_t (jwJ k) ?_⟩
      simp only [said] at q
      exact ⟨_, rfl, t, _, rfl, .inr ht1, rfl, _, rfl, if_t rfl ⟨_, rfl, _, rfl, _, rfl, t, _, 1, _, rfl, rfl, ht1, rfl, cv, b, ta, C, bnd, ss, ws, rfl, hC1, hb1, ok, hws, dws, hok.1, hdd, q⟩⟩
    | iff x y =>
      have hok : sOk x = true ∧ sOk y = true := by simpa [sOk] using hs
      have hdd : ∀ s ∈ [x, y], sOk s = true ∧ dep s ≤ n ∧ dep s ≤ 20 := fun s hm => by
        simp only [dep] at hd hd20
        rcases List.mem_cons.mp hm with h | h
        · rw [h]
          exact ⟨hok.1, by omega, by omega⟩
        · rw [List.mem_singleton.mp h]
          exact ⟨hok.2, by omega, by omega⟩
      rw [enc] at eds
      cases eds
      obtain ⟨v0, v1, v2, rfl, g0, g1, g2⟩ := dpa3 da1
      rw [dp_str g0] at ht1
      refine ⟨_, rfl, t, _, 0, _, rfl, rfl, ht1, rfl, _, _, _, _, true, rfl, .ty _, .base (.str _), kit_ty (by decide +kernel), _, rfl, iteF ?_⟩
      refine ⟨_, rfl, t, _, 0, _, rfl, rfl, ht1, rfl, _, rfl, rfl, _, rfl, if_f (by decide +kernel) ?_⟩
      refine ⟨_, rfl, _, _, rfl, .inr (T.tJOINED _), rfl, by decide +kernel, _, rfl, if_f (by decide +kernel) ?_⟩
      refine ⟨_, rfl, rfl, _, rfl, if_t (by decide +kernel) ?_⟩
      refine ⟨_, rfl, t, _, rfl, .inr ht1, rfl, _, rfl, if_t rfl ⟨_, rfl, _, rfl, _, rfl, 1, rfl, ?_⟩⟩
      dsimp only [tNoPart]
      refine cut_use ht1 fun q1 H2 a2 h2 => ?_
      have h2 : SqT K H2 q1 [v1, v2] := h2
      have t2 := Same.tups a2
      simp only [said] at q
      refine ⟨cv, b, q1, C, bnd, [x, y], [v1, v2], rfl, Dp.tups t2 _ (noL_castD C) hC1, t2.sq hb1, ok, h2, .cons (Dp.tups t2 _ (noL_enc x) g1) (.cons (Dp.tups t2 _ (noL_enc y) g2) .nil), by show 2 ≤ 4; decide, hdd, fun H' a => ?_⟩
      have := q H' (a2.trans a)
      simp only [saidAll]
      exact this
    | ea x s =>
      rw [enc] at eds
      cases eds
      obtain ⟨v0, v1, v2, rfl, g0, g1, g2⟩ := dpa3 da1
      rw [dp_str g0] at ht1
      refine ⟨_, rfl, t, _, 0, _, rfl, rfl, ht1, rfl, _, _, _, _, true, rfl, .ty _, .base (.str _), kit_ty (by decide +kernel), _, rfl, iteF ?_⟩
      refine ⟨_, rfl, t, _, 0, _, rfl, rfl, ht1, rfl, _, rfl, rfl, _, rfl, if_f (by decide +kernel) ?_⟩
      refine ⟨_, rfl, _, _, rfl, .inr (T.tJOINED _), rfl, by decide +kernel, _, rfl, if_f (by decide +kernel) ?_⟩
      refine ⟨_, rfl, rfl, _, rfl, if_f (by decide +kernel) ?_⟩
      refine ⟨_, rfl, _, _, rfl, .inr (T.tCOMPARED _), rfl, by decide +kernel, _, rfl, if_f (by decide +kernel) ?_⟩
      refine ⟨_, rfl, _, _, rfl, .inr (T.tPLACED _), rfl, by decide +kernel, _, rfl, if_f (by decide +kernel) ?_⟩
      refine ⟨_, rfl, Nat.zero_le _, fun u2 nu2 => ?_⟩
      have a2 := same_new (o := .tup []) nu2
      refine ⟨strsD bnd, .tuple [], dp_strs_mk (Same.sqT a2 hb1), dp_nil (SqT.of upd_same), shaped_strs ok.bds, shaped_nil, _, rfl, ?_⟩
      rw [eqv_nil]
      refine ite2 (fun e => ?_) (fun e => ?_)
      · have eb : bnd = [] := List.isEmpty_iff.mp e
        subst eb
        exact ⟨_, rfl, _, rfl, cv, _, C, _, rfl, Dp.tups (Same.tups a2) _ (noL_castD C) hC1, ok, Dp.tups (Same.tups a2) _ (noL_enc _) hD1, hs, hd, hd20, .inl rfl, fun H' a => q H' (a2.trans a)⟩
      · have := q _ a2
        simp only [said, Bool.eq_false_iff.mpr e, Bool.false_and] at this
        exact this
    | pa x y s =>
      rw [enc] at eds
      cases eds
      obtain ⟨v0, v1, v2, v3, rfl, g0, g1, g2, g3⟩ := dpa4 da1
      rw [dp_str g0] at ht1
      refine ⟨_, rfl, t, _, 0, _, rfl, rfl, ht1, rfl, _, _, _, _, true, rfl, .ty _, .base (.str _), kit_ty (by decide +kernel), _, rfl, iteF ?_⟩
      refine ⟨_, rfl, t, _, 0, _, rfl, rfl, ht1, rfl, _, rfl, rfl, _, rfl, if_f (by decide +kernel) ?_⟩
      refine ⟨_, rfl, _, _, rfl, .inr (T.tJOINED _), rfl, by decide +kernel, _, rfl, if_f (by decide +kernel) ?_⟩
      refine ⟨_, rfl, rfl, _, rfl, if_f (by decide +kernel) ?_⟩
      refine ⟨_, rfl, _, _, rfl, .inr (T.tCOMPARED _), rfl, by decide +kernel, _, rfl, if_f (by decide +kernel) ?_⟩
      refine ⟨_, rfl, _, _, rfl, .inr (T.tPLACED _), rfl, by decide +kernel, _, rfl, if_f (by decide +kernel) ?_⟩
      refine ⟨_, rfl, Nat.zero_le _, fun u2 nu2 => ?_⟩
      have a2 := same_new (o := .tup []) nu2
      refine ⟨strsD bnd, .tuple [], dp_strs_mk (Same.sqT a2 hb1), dp_nil (SqT.of upd_same), shaped_strs ok.bds, shaped_nil, _, rfl, ?_⟩
      rw [eqv_nil]
      refine ite2 (fun e => ?_) (fun e => ?_)
      · have eb : bnd = [] := List.isEmpty_iff.mp e
        subst eb
        exact ⟨_, rfl, _, rfl, cv, _, C, _, rfl, Dp.tups (Same.tups a2) _ (noL_castD C) hC1, ok, Dp.tups (Same.tups a2) _ (noL_enc _) hD1, hs, hd, hd20, .inr (.inl rfl), fun H' a => q H' (a2.trans a)⟩
      · have := q _ a2
        simp only [said, Bool.eq_false_iff.mpr e, Bool.false_and] at this
        exact this
/-! ### is_saying -/
abbrev sIsSaying : Stmt := top 24
abbrev nIsSaying : List Str := ["cast", "thing"]
theorem scIsSaying : FnScope nIsSaying ["cast", "thing"] (fnScope sIsSaying) := fnScope_by (by decide +kernel)
def spIsSaying (K : PySem.W.Frag) : Sp := fun vs H Q _ => ∃ (cv v : V) (C : Cast) (s : Say), vs = [cv, v] ∧ Dp K H cv (castD C) ∧ CbOk C [] ∧ Dp K H v (enc s) ∧ sOk s = true ∧ dep s ≤ 7 ∧ ∀ H', Same H H' → Q (.bl (said C s [])) H'
theorem ok_is_saying (T : Tx K mg A) (c_is_said : Cal P w K mg base 18 "is_said" (spSaid K 7) []) (D : Dfn K mg "is_saying" sIsSaying) : Cal P w K mg base 19 "is_saying" (spIsSaying K) [] := by
  refine cal_of D scIsSaying (fun _ _ _ _ _ _ us hl => match us, hl with | [_, _], _ => rfl) (fun vs H Q E h => ?_) (fun f cdv A outer s0 H vs Q E hr h => ?_)
  · obtain ⟨cv, v, C, s, rfl, _⟩ := h
    rfl
  obtain ⟨cv, v, C, s, rfl, hC, ok, hD, hs, hd, q⟩ := h
  refine ⟨_, (pss_one
    (ps_ret (pe_c c_is_said hr (by decide) (by rfl) (pa_cons (pv 0) (pa_cons (pe_tup pa_nil) (pa_cons (pv 1) pa_nil)))))), ?_⟩
  refine ⟨_, rfl, Nat.zero_le _, fun t nt => ?_⟩
  have a1 := same_new (o := .tup []) nt
  exact ⟨_, rfl, cv, t, v, C, [], s, rfl, Dp.tups (Same.tups a1) _ (noL_castD C) hC, SqT.of upd_same, ok, Dp.tups (Same.tups a1) _ (noL_enc s) hD, hs, hd, by omega, fun H' a => q H' (a1.trans a)⟩
end
end Ep

/-! 19. Texts: must_be, read_number, show_base, show_sum, sum_from. -/
namespace Ep
open PySem PySem.Spec PyProof.Rows L2 SX
open C8 (Cal Met Mak Def cal0 met0 mak0 pe_c pe_mk pe_mt pe_mt0 fnBody fnScope fnArgs fnScope_by pe_gc pss_cut)
/-! ### a number's text -/
theorem ofString_tl (s : String) : (Str.ofString s).cps.toList = s.toList.map Char.toNat := cpsOfBytes_string s
theorem str_numT (n : Int) : (Str.ofString (toString n)) = S (numT n) := by
  cases n with
  | ofNat m =>
    have : ¬ ((m : Int) < 0) := by omega
    show Str.ofString (toString ((m : Nat) : Int)) = S (numT (m : Int))
    rw [num_S]
    unfold numT
    rw [if_neg this]
    rfl
  | negSucc m =>
    have h1 : Int.negSucc m < 0 := Int.negSucc_lt_zero m
    have h2 : (Int.negSucc m).natAbs = m + 1 := rfl
    unfold numT
    rw [if_pos h1, h2]
    refine TL.ext_tl ?_
    show (Str.ofString (toString (Int.negSucc m))).cps.toList = 45 :: TL.numL (m + 1)
    have e : toString (Int.negSucc m) = "-" ++ toString (m + 1) := rfl
    rw [ofString_tl, e, String.toList_append, List.map_append]
    have h3 := TL.tl_num (m + 1)
    have h4 : (Str.ofString (toString ((m + 1 : Nat) : Int))).cps.toList = (toString (m + 1)).toList.map Char.toNat := by
      rw [ofString_tl]
      rfl
    rw [← h4]
    show 45 :: _ = _
    exact congrArg (45 :: ·) h3
theorem numL_ne0 : ∀ n : Nat, 0 < n → ∃ c r, TL.numL n = c :: r ∧ c ≠ 48 := by
  intro n
  induction n using Nat.strongRecOn with
  | _ n ih =>
    intro h
    by_cases hn : n < 10
    · exact ⟨48 + n, [], TL.numL_lt hn, by omega⟩
    · obtain ⟨c, r, e, hc⟩ := ih (n / 10) (by omega) (by omega)
      exact ⟨c, r ++ [48 + n % 10], by rw [TL.numL_step (by omega), e] <;> rfl, hc⟩
theorem numL_le10 {n : Nat} (h : n < 10000000000) : (TL.numL n).length ≤ 10 := TL.numL_len (k := 10) (by decide) h
theorem numL_pos (n : Nat) : 1 ≤ (TL.numL n).length := by
  have := TL.numL_ne n
  cases e : TL.numL n with
  | nil => exact absurd e this
  | cons a r => exact Nat.succ_le_succ (Nat.zero_le _)
theorem numT_len {n : Int} (h : n.natAbs < 10000000000) : (numT n).length ≤ 11 := by
  have := numL_le10 h
  unfold numT
  split
  · rw [List.length_cons]
    omega
  · omega
theorem int_numT {n : Int} (h : n.natAbs < 10000000000) : intText? (S (numT n)) = some n := by
  have hl := numL_le10 h
  by_cases hn : n < 0
  · have e : (S (numT n)).cps.toList = 45 :: TL.numL n.natAbs := by
      unfold numT
      rw [if_pos hn]
    have := intText_neg e (TL.numL_digits _) (TL.numL_ne _) (by rw [S_len]; have := numT_len h; omega)
    rw [TL.numL_val] at this
    rw [this]
    congr 1
    omega
  · obtain ⟨m, rfl⟩ : ∃ m : Nat, n = (m : Int) := ⟨n.toNat, by omega⟩
    have e : S (numT (m : Int)) = Str.ofString (toString ((m : Nat) : Int)) := (str_numT (m : Int)).symm
    rw [e]
    exact TL.int_num (by simpa using Nat.le_trans hl (by decide))
theorem log_ok {n : Int} (h : n.natAbs < 10000000000) : n.natAbs.log2 < 1920 := by
  by_cases h0 : n.natAbs = 0
  · rw [h0]
    decide
  · rw [Nat.log2_lt h0]
    exact Nat.lt_trans h (by decide +kernel)
/-! ### lengths of words -/
theorem baseT_len {b : Bs} (h : bOk b = true) : (baseT b).length ≤ 17 := by
  cases b with
  | non => exact Nat.zero_le _
  | num z =>
    have := (nameOk_iff.mp (show nameOk z = true from h)).2.1
    show z.length ≤ 17
    omega
  | cell r p =>
    have h : nameOk r = true ∧ nameOk p = true := by simpa [bOk] using h
    have h1 := (nameOk_iff.mp h.1).2.1
    have h2 := (nameOk_iff.mp h.2).2.1
    show (r ++ 46 :: p).length ≤ 17
    rw [List.length_append, List.length_cons]
    omega
theorem moreT_len {n : Int} (h : n.natAbs < 10000000000) : (moreT n).length ≤ 11 := by
  have := numL_le10 h
  unfold moreT
  split
  · exact Nat.zero_le _
  · split
    · rw [List.length_cons]
      omega
    · rw [List.length_cons]
      omega
theorem smT_len {a : Sm} (h : mOk a = true) : (smT a).length ≤ 28 := by
  obtain ⟨b, n⟩ := a
  obtain ⟨h1, h2⟩ := mOk_iff.mp h
  by_cases hb : b = .non
  · subst hb
    have : (numT n).length ≤ 11 := numT_len h2
    show (numT n).length ≤ 28
    omega
  · rw [smT_base hb, List.length_append]
    have h3 := baseT_len h1
    have h4 := moreT_len h2
    simp only at h3 h4
    omega
section
variable {P : Program} {w : World} {K : PySem.W.Frag} {mg : Str → Option Value} {base : Heap} {A : Ad}
/-! ### must_be -/
abbrev sMustBe : Stmt := top 32
abbrev nMustBe : List Str := ["good"]
theorem scMustBe : FnScope nMustBe ["good"] (fnScope sMustBe) := fnScope_by (by decide +kernel)
def spMust : Sp := fun vs H Q _ => vs = [.bl true] ∧ Q .non H
theorem ok_must (D : Dfn K mg "must_be" sMustBe) : Cal P w K mg base 1 "must_be" spMust [] := by
  refine cal_of D scMustBe (fun _ _ _ _ _ _ us hl => match us, hl with | [_], _ => rfl) (fun vs H Q E h => ?_) (fun f cdv A outer s H vs Q E hr h => ?_)
  · obtain ⟨rfl, _⟩ := h
    rfl
  obtain ⟨rfl, q⟩ := h
  refine ⟨_, (pss_one
    (ps_if (pt_not (pt_val (pv 0))) (pss_one
    ps_never) pss_nil)), ?_⟩
  exact ⟨_, rfl, _, rfl, iteF q⟩
/-! ### read_number -/
abbrev sReadNumber : Stmt := top 33
abbrev nReadNumber : List Str := ["text", "most", "figures", "sign"]
theorem scReadNumber : FnScope nReadNumber ["text", "most"] (fnScope sReadNumber) := fnScope_by (by decide +kernel)
def spReadNumber : Sp := fun vs H Q _ => ∃ n : Int, vs = [.str (S (numT n)), .int 30] ∧ n.natAbs < 10000000000 ∧ ∀ H', Same H H' → Q (.int n) H'
theorem figures_cps : (Str.ofString "0123456789").cps.toList = [48, 49, 50, 51, 52, 53, 54, 55, 56, 57] := by decide +kernel
theorem digit_in {c : Nat} (h : 48 ≤ c ∧ c ≤ 57) : c ∈ ([48, 49, 50, 51, 52, 53, 54, 55, 56, 57] : List Nat) := by
  have h0 : ∀ k ∈ List.range 10, 48 + k ∈ ([48, 49, 50, 51, 52, 53, 54, 55, 56, 57] : List Nat) := by decide +kernel
  have h1 := h0 (c - 48) (List.mem_range.mpr (by omega))
  rw [show 48 + (c - 48) = c by omega] at h1
  exact h1
theorem ok_read_number (T : Tx K mg A) (c_must_be : Cal P w K mg base 1 "must_be" spMust []) (D : Dfn K mg "read_number" sReadNumber) : Cal P w K mg base 2 "read_number" spReadNumber [] := by
  refine cal_of D scReadNumber (fun _ _ _ _ _ _ us hl => match us, hl with | [_, _], _ => rfl) (fun vs H Q E h => ?_) (fun f cdv A outer s H vs Q E hr h => ?_)
  · obtain ⟨n, rfl, _⟩ := h
    rfl
  obtain ⟨n, rfl, hn, q⟩ := h
  refine ⟨_, (pss_cons
    (ps_set (i := 2) scReadNumber.nd rfl (Or.inl rfl) (pe_slice C8.sl_txt (pv 0) (po_some (pe_callTy call_int1 (by rfl) T.int_ (by decide +kernel) (pa_cons (pe_cmpR op_eq (pe_slice C8.sl_txt (pv 0) po_none (po_some pe_int)) pe_str (nomark _)) pa_nil))) po_none))
    (pss_cons
    (ps_expr (pe_c c_must_be hr (by decide) (by rfl) (pa_cons (pe_and (pe_chain op_le op_le pe_int (pe_callB call_len_str (by rfl) T.len_ (by decide +kernel) (pa_cons (pv 2) pa_nil)) (pv 1)) (pe_one (pe_callB (cr_all rfl) (by rfl) T.all_ (by decide +kernel) (pa_cons (pe_lc (own := [("sign", 3)]) (g := gName 3) (tt := tYes) rfl scReadNumber.nd (pi_str (pv 2)) (blkOk_by (own := [("sign", 3)]) (N := nReadNumber) (sc := fnScope sReadNumber) (by decide +kernel)) (fun _ _ _ _ _ => pg_name (i := 3) scReadNumber.nd rfl (Or.inl rfl)) (fun _ _ _ _ _ => pts_nil) (fun _ _ _ _ _ => (pe_cmpR op_in_sign (pv 3) (pe_gc (by rfl) T.vFIGURES) (by rfl)))) pa_nil)))) pa_nil)))
    (pss_cons
    (ps_expr (pe_c c_must_be hr (by decide) (by rfl) (pa_cons (pe_or (pe_cmpR op_ne (pe_ix ix_str (pv 2) pe_int (fun _ _ => rfl)) pe_str (nomark _)) (pe_one (pe_cmpR op_eq (pv 0) pe_str (nomark _)))) pa_nil)))
    (pss_one
    (ps_ret (pe_callTy call_int_str (by rfl) T.int_ (by decide +kernel) (pa_cons (pv 0) pa_nil))))))), ?_⟩
  have tl := numT_len hn
  have hl := numL_le10 hn
  have hp := numL_pos n.natAbs
  have hsz : (S (numT n)).length ≤ sizeLine := by rw [S_len]; exact sz_small (by omega)
  -- figures
  have hfig : ∀ k : Int, (if decide (V.str (Txt.slice (S (numT n)) none (some 1)) = V.str (Str.ofString "-")) = true then (1 : Int) else 0) = k → Txt.slice (S (numT n)) (some k) none = S (TL.numL n.natAbs) := by
    intro k hk
    rw [slice_to (by decide)] at hk
    by_cases h0 : n < 0
    · have e : numT n = 45 :: TL.numL n.natAbs := by unfold numT; rw [if_pos h0]
      rw [e] at hk ⊢
      have : k = 1 := by
        rw [← hk, if_pos]
        exact decide_eq_true (congrArg V.str (by decide +kernel : S [45] = Str.ofString "-"))
      rw [this, slice_from (by decide)]
      rfl
    · have e : numT n = TL.numL n.natAbs := by unfold numT; rw [if_neg h0]
      rw [e] at hk ⊢
      have : k = 0 := by
        rw [← hk, if_neg]
        intro hd
        have hd := of_decide_eq_true hd
        have hd : S ((TL.numL n.natAbs).take 1) = Str.ofString "-" := V.str.inj hd
        obtain ⟨c, r, ec⟩ : ∃ c r, TL.numL n.natAbs = c :: r := by
          cases ez : TL.numL n.natAbs with
          | nil => exact absurd ez (TL.numL_ne _)
          | cons c r => exact ⟨c, r, rfl⟩
        rw [ec] at hd
        have hc := numL_head ec
        have h45 : S [45] = Str.ofString "-" := by decide +kernel
        rw [← h45] at hd
        have := S_inj hd
        have : c = 45 := (List.cons.inj this).1
        omega
      rw [this, slice_from (by decide)]
      rfl
  refine ⟨_, rfl, _, rfl, 1, rfl, _, rfl, hsz, rfl, .inr ⟨_, rfl, _, rfl, _, rfl, hsz, ?_⟩⟩
  rw [hfig _ rfl]
  have fsz : (S (TL.numL n.natAbs)).length ≤ sizeLine := by rw [S_len]; exact sz_small (by omega)
  refine ⟨_, rfl, _, rfl, fsz, 1, _, rfl, rfl, true, congrArg V.bl (decide_eq_true (by rw [S_len]; omega)), iteT ⟨_, rfl, _, 30, rfl, rfl, true, congrArg V.bl (decide_eq_true (by rw [S_len]; omega)), iteT ?_⟩⟩
  refine ⟨_, rfl, _, rfl, fun D nD => lc_it walk_str (fun i H' => H' D = some (.lst ((List.replicate i true).map V.bl)) ∧ Same H H') ⟨upd_same, same_new nD⟩ (fun _ _ _ _ => trivial) ?_ ?_⟩
  · rintro i y H1 H2 hi ⟨hD, sm⟩ ⟨rfl, d, hd, rfl⟩
    have hdm : d ∈ TL.numL n.natAbs := by
      have h2 : (TL.numL n.natAbs)[i]? = some d := by
        have h3 : (S (TL.numL n.natAbs)).cps[i]? = some d := hd
        rw [← Array.getElem?_toList] at h3
        exact h3
      exact List.mem_of_getElem? h2
    have hil : i < (TL.numL n.natAbs).length := by
      have h3 : i < (S (TL.numL n.natAbs)).cps.size := hi
      have h4 : (S (TL.numL n.natAbs)).cps.size = (TL.numL n.natAbs).length := by simp [S]
      omega
    refine ⟨rfl, _, rfl, d, _, rfl, rfl, _, hD, sz_lt (by rw [List.length_map, List.length_replicate]; omega), ?_, Same.updN sm nD⟩
    rw [upd_same, figures_cps, decide_eq_true (digit_in (TL.numL_digits _ d hdm)), List.replicate_succ', List.map_append]
    rfl
  · rintro H1 ⟨hD, sm⟩
    refine ⟨D, _, rfl, SqL.of hD, ?_⟩
    rw [all_true]
    refine ⟨rfl, ?_⟩
    obtain ⟨c, r, ec⟩ : ∃ c r, TL.numL n.natAbs = c :: r := by
      cases ez : TL.numL n.natAbs with
      | nil => exact absurd ez (TL.numL_ne _)
      | cons c r => exact ⟨c, r, rfl⟩
    refine ⟨_, rfl, _, 0, c, rfl, rfl, fsz, by rw [ec]; exact at_of' (j := 0) rfl rfl, rfl, _, rfl, ?_⟩
    have fin : V.int n = V.int n := rfl
    by_cases h0 : n = 0
    · subst h0
      have e0 : TL.numL 0 = [48] := TL.numL_lt (by decide)
      have ec' : c = 48 := by
        have : TL.numL 0 = c :: r := ec
        rw [e0] at this
        exact (List.cons.inj this).1.symm
      subst ec'
      refine if_f (by decide +kernel) ⟨_, rfl, rfl, ?_⟩
      have e1 : decide (V.str (S (numT 0)) = V.str (Str.ofString "0")) = true := by
        have : numT 0 = [48] := by
          unfold numT
          rw [if_neg (by decide)]
          exact e0
        rw [this]
        decide +kernel
      rw [e1]
      exact ⟨rfl, _, rfl, _, 0, rfl, int_numT hn, by rw [S_len]; omega, q H1 sm⟩
    · obtain ⟨c', r', ec', hc'⟩ := numL_ne0 n.natAbs (by omega)
      rw [ec] at ec'
      have ecc : c = c' := (List.cons.inj ec').1
      have hc : c ≠ 48 := by
        rw [ecc]
        exact hc'
      refine if_t ?_ ⟨rfl, _, rfl, _, n, rfl, int_numT hn, by rw [S_len]; omega, q H1 sm⟩
      have : ¬ V.str ⟨#[c]⟩ = V.str (Str.ofString "0") := by
        intro h
        have h48 : S [48] = Str.ofString "0" := by decide +kernel
        have h : S [c] = Str.ofString "0" := V.str.inj h
        rw [← h48] at h
        exact hc (List.cons.inj (S_inj h)).1
      rw [decide_eq_false this]
      rfl
/-! ### show_base, show_sum -/
abbrev sShowBase : Stmt := top 34
abbrev nShowBase : List Str := ["base"]
theorem scShowBase : FnScope nShowBase ["base"] (fnScope sShowBase) := fnScope_by (by decide +kernel)
def spShowBase (K : PySem.W.Frag) : Sp := fun vs H Q _ => ∃ (v : V) (b : Bs), vs = [v] ∧ Dp K H v (encB b) ∧ b ≠ .non ∧ bOk b = true ∧ Q (.str (S (baseT b))) H
theorem ok_show_base (T : Tx K mg A) (D : Dfn K mg "show_base" sShowBase) : Cal P w K mg base 1 "show_base" (spShowBase K) [] := by
  refine cal_of D scShowBase (fun _ _ _ _ _ _ us hl => match us, hl with | [_], _ => rfl) (fun vs H Q E h => ?_) (fun f cdv A outer s H vs Q E hr h => ?_)
  · obtain ⟨v, b, rfl, _⟩ := h
    rfl
  obtain ⟨v, b, rfl, hD, hn, ok, q⟩ := h
  refine ⟨_, (pss_cons
    (ps_if (pt_val (pe_callB call_isi (by rfl) T.isinstance_ (by decide +kernel) (pa_cons (pv 0) (pa_cons (pe_bltn (v := .ty "tuple") (u := .type "tuple") (by rfl) T.tuple_ (by decide +kernel) rfl) pa_nil)))) (pss_one
    (ps_ret (pe_op op_add_str (pe_op op_add_str (pe_ix (ix_tupK (K := K)) (pv 0) pe_int (fun _ _ => rfl)) pe_str) (pe_ix (ix_tupK (K := K)) (pv 0) pe_int (fun _ _ => rfl))))) pss_nil)
    (pss_one
    (ps_ret (pv 0)))), ?_⟩
  cases b with
  | non => exact absurd rfl hn
  | num z =>
    rw [dp_str hD]
    exact ⟨_, rfl, _, _, _, _, false, rfl, .ty _, .base (.str _), kit_ty (by decide +kernel), _, rfl, iteF ⟨_, rfl, q⟩⟩
  | cell r p =>
    obtain ⟨t, xs, rfl, ht, da⟩ := dp_tup hD
    obtain ⟨v1, v2, rfl, h1, h2⟩ := dpa2 da
    rw [dp_str h1, dp_str h2] at ht
    have ok : nameOk r = true ∧ nameOk p = true := by simpa [bOk] using ok
    have l1 := (nameOk_iff.mp ok.1).2.1
    have l2 := (nameOk_iff.mp ok.2).2.1
    have dot : Str.ofString "." = S [46] := by decide +kernel
    refine ⟨_, rfl, _, _, _, _, true, rfl, .ty _, sqT_ty ht, kit_ty (by decide +kernel), _, rfl, iteT ?_⟩
    refine ⟨_, rfl, t, _, 0, _, rfl, rfl, ht, rfl, _, _, rfl, rfl, ?_, _, rfl, t, _, 1, _, rfl, rfl, ht, rfl, _, _, rfl, rfl, ?_, ?_⟩
    · rw [dot, S_len, S_len]
      exact sz_small (by show r.length + 1 ≤ _; omega)
    · rw [dot, S_cat, S_len, S_len]
      exact sz_small (by rw [List.length_append]; show r.length + 1 + p.length ≤ _; omega)
    · rw [dot, S_cat, S_cat]
      have e : r ++ [46] ++ p = baseT (.cell r p) := by
        show r ++ [46] ++ p = r ++ 46 :: p
        rw [List.append_assoc]
        rfl
      rw [e]
      exact q
abbrev sShowSum : Stmt := top 35
abbrev nShowSum : List Str := ["one", "base", "more"]
theorem scShowSum : FnScope nShowSum ["one"] (fnScope sShowSum) := fnScope_by (by decide +kernel)
def spShowSum (K : PySem.W.Frag) : Sp := fun vs H Q _ => ∃ (v : V) (a : Sm), vs = [v] ∧ Dp K H v (encM a) ∧ mOk a = true ∧ Q (.str (S (smT a))) H
theorem ok_show_sum (T : Tx K mg A) (c_show_base : Cal P w K mg base 1 "show_base" (spShowBase K) []) (D : Dfn K mg "show_sum" sShowSum) : Cal P w K mg base 2 "show_sum" (spShowSum K) [] := by
  refine cal_of D scShowSum (fun _ _ _ _ _ _ us hl => match us, hl with | [_], _ => rfl) (fun vs H Q E h => ?_) (fun f cdv A outer s H vs Q E hr h => ?_)
  · obtain ⟨v, a, rfl, _⟩ := h
    rfl
  obtain ⟨v, ⟨b, n⟩, rfl, hD, ok, q⟩ := h
  obtain ⟨ob, on⟩ := mOk_iff.mp ok
  simp only at ob on
  obtain ⟨t, xs, rfl, ht, da⟩ := dp_tup hD
  obtain ⟨v1, v2, rfl, h1, h2⟩ := dpa2 da
  rw [dp_int h2] at ht
  refine ⟨_, (pss_cons
    (ps_asg (pv 0) (pg_tup rfl (pgs_cons (pg_name (i := 1) scShowSum.nd rfl (Or.inl rfl)) (pgs_cons (pg_name (i := 2) scShowSum.nd rfl (Or.inl rfl)) pgs_nil))))
    (pss_cons
    (ps_if (pt_cmpR op_isN (pv 1) pe_non (nomark _)) (pss_one
    (ps_ret (pe_callTy call_str_int (by rfl) T.str_ (by decide +kernel) (pa_cons (pv 2) pa_nil)))) pss_nil)
    (pss_cons
    (ps_if (pt_cmpR op_eq (pv 2) pe_int (nomark _)) (pss_one
    (ps_ret (pe_c c_show_base hr (by decide) (by rfl) (pa_cons (pv 1) pa_nil)))) pss_nil)
    (pss_cons
    (ps_if (pt_cmpR op_gt (pv 2) pe_int (nomark _)) (pss_one
    (ps_ret (pe_op op_add_str (pe_op op_add_str (pe_c c_show_base hr (by decide) (by rfl) (pa_cons (pv 1) pa_nil)) pe_str) (pe_callTy call_str_int (by rfl) T.str_ (by decide +kernel) (pa_cons (pv 2) pa_nil))))) pss_nil)
    (pss_one
    (ps_ret (pe_op op_add_str (pe_c c_show_base hr (by decide) (by rfl) (pa_cons (pv 1) pa_nil)) (pe_callTy call_str_int (by rfl) T.str_ (by decide +kernel) (pa_cons (pv 2) pa_nil))))))))), ?_⟩
  refine ⟨_, rfl, t, _, rfl, ht, rfl, _, _, rfl, _, _, rfl, rfl, ?_⟩
  have hlog := log_ok on
  have plus : Str.ofString "+" = S [43] := by decide +kernel
  have bl := baseT_len ob
  have nl := numL_le10 on
  by_cases hb : b = .non
  · subst hb
    rw [dp_non h1] at ht ⊢
    refine ⟨_, rfl, rfl, _, rfl, if_t (by decide) ⟨_, rfl, n, rfl, hlog, ?_⟩⟩
    rw [str_numT]
    exact q
  · have hv : v1 ≠ .non := by
      intro e
      rw [e] at h1
      cases b with
      | non => exact hb rfl
      | num z => cases h1
      | cell r p => cases h1
    refine ⟨_, rfl, rfl, _, rfl, if_f (decide_eq_false hv) ?_⟩
    rw [smT_base hb] at q
    refine ⟨_, rfl, rfl, _, rfl, ?_⟩
    refine ite2 (fun e => ?_) (fun e => ?_)
    · have e0 : n = 0 := V.int.inj (of_decide_eq_true e)
      subst e0
      refine ⟨_, rfl, v1, b, rfl, h1, hb, ob, ?_⟩
      have : moreT 0 = [] := rfl
      rw [this, List.append_nil] at q
      exact q
    · have n0 : n ≠ 0 := fun z => e (decide_eq_true (congrArg V.int z))
      refine ⟨_, rfl, _, _, rfl, rfl, _, rfl, ?_⟩
      refine ite2 (fun e2 => ?_) (fun e2 => ?_)
      · have np : 0 < n := of_decide_eq_true e2
        have em : moreT n = [43] ++ TL.numL n.natAbs := by
          unfold moreT
          rw [if_neg n0, if_pos np]
          rfl
        have en : numT n = TL.numL n.natAbs := by
          unfold numT
          rw [if_neg (by omega)]
        refine ⟨_, rfl, v1, b, rfl, h1, hb, ob, _, _, rfl, rfl, ?_, _, rfl, n, rfl, hlog, _, _, rfl, rfl, ?_, ?_⟩
        · rw [plus, S_len, S_len]
          exact sz_small (by show (baseT b).length + 1 ≤ _; omega)
        · rw [plus, S_cat, str_numT, en, S_len, S_len, List.length_append]
          exact sz_small (by show (baseT b).length + 1 + (TL.numL n.natAbs).length ≤ _; omega)
        · rw [plus, S_cat, str_numT, en, S_cat]
          rw [em, ← List.append_assoc] at q
          exact q
      · have np : ¬ 0 < n := fun z => e2 (decide_eq_true z)
        have em : moreT n = numT n := by
          unfold moreT numT
          rw [if_neg n0, if_neg np, if_pos (by omega)]
        refine ⟨_, rfl, v1, b, rfl, h1, hb, ob, _, rfl, n, rfl, hlog, _, _, rfl, rfl, ?_, ?_⟩
        · rw [str_numT, S_len, S_len]
          have := numT_len on
          exact sz_small (by omega)
        · rw [str_numT, S_cat]
          rw [em] at q
          exact q
end
end Ep

/-! 20. sum_from. -/
namespace Ep
open PySem PySem.Spec PyProof.Rows L2 SX
open C8 (Cal Met Mak Def cal0 met0 mak0 pe_c pe_mk pe_mt pe_mt0 fnBody fnScope fnArgs fnScope_by pe_gc pss_cut)
theorem slice_one (c : Nat) (r : List Nat) : Txt.slice (S (c :: r)) none (some 1) = (⟨#[c]⟩ : Str) := by
  rw [slice_to (by decide)]
  rfl
/-- the parts of a base -/
def partsT : Bs → List (List Nat)
  | .non => []
  | .num z => [z]
  | .cell r p => [r, p]
theorem split_base {b : Bs} (h : bOk b = true) (hn : b ≠ .non) : Txt.split (S (baseT b)) (Str.ofString ".") = (partsT b).map S := by
  have dot : Str.ofString "." = S [46] := by decide +kernel
  have nod : ∀ {z : List Nat}, nameOk z = true → 46 ∉ z := fun hz hm => by
    have := (nameOk_iff.mp hz).2.2 46 hm
    omega
  rw [dot, split_S (by decide) (by decide)]
  cases b with
  | non => exact absurd rfl hn
  | num z =>
    have e : TL.spl [46] 0 [] (TL.joinL [46] [z]) = [z] := TL.spl_join (List.cons_ne_nil _ _) fun p hp => by
      rw [List.mem_singleton.mp hp]
      exact nod h
    exact congrArg (List.map S) e
  | cell r p =>
    have h : nameOk r = true ∧ nameOk p = true := by simpa [bOk] using h
    have e : TL.spl [46] 0 [] (TL.joinL [46] [r, p]) = [r, p] := TL.spl_join (List.cons_ne_nil _ _) fun x hp => by
      rcases List.mem_cons.mp hp with e | hp
      · rw [e]
        exact nod h.1
      · rw [List.mem_singleton.mp hp]
        exact nod h.2
    exact congrArg (List.map S) e
theorem moreT_pos {n : Int} (h : 0 < n) : moreT n = 43 :: numT n := by
  unfold moreT numT
  rw [if_neg (by omega), if_pos h, if_neg (by omega)]
theorem moreT_neg {n : Int} (h : n < 0) : moreT n = numT n ∧ ∃ r, numT n = 45 :: r := by
  unfold moreT numT
  rw [if_neg (by omega), if_neg (by omega), if_pos h]
  exact ⟨rfl, _, rfl⟩
section
variable {P : Program} {w : World} {K : PySem.W.Frag} {mg : Str → Option Value} {base : Heap} {A : Ad}
abbrev sSumFrom : Stmt := top 37
abbrev nSumFrom : List Str := ["word", "at", "more", "parts"]
theorem scSumFrom : FnScope nSumFrom ["word"] (fnScope sSumFrom) := fnScope_by (by decide +kernel)
def spSumFrom (K : PySem.W.Frag) : Sp := fun vs H Q _ => ∃ a : Sm, vs = [.str (S (smT a))] ∧ mOk a = true ∧ ∀ v H', Same H H' → Dp K H' v (encM a) → Q v H'
theorem ok_sum_from (T : Tx K mg A) (c_must_be : Cal P w K mg base 1 "must_be" spMust []) (c_read_number : Cal P w K mg base 2 "read_number" spReadNumber []) (D : Dfn K mg "sum_from" sSumFrom) : Cal P w K mg base 3 "sum_from" (spSumFrom K) [] := by
  refine cal_of D scSumFrom (fun _ _ _ _ _ _ us hl => match us, hl with | [_], _ => rfl) (fun vs H Q E h => ?_) (fun f cdv A outer s H vs Q E hr h => ?_)
  · obtain ⟨a, rfl, _⟩ := h
    rfl
  obtain ⟨⟨b, n⟩, rfl, ok, q⟩ := h
  obtain ⟨ob, on⟩ := mOk_iff.mp ok
  simp only at ob on
  refine ⟨_, (pss_cons
    (ps_if (PW.pt (pw_or (pt_cmpR op_notIn_sign (pe_slice C8.sl_txt (pv 0) po_none (po_some pe_int)) (pe_gc (by rfl) T.vLETTERS) (by rfl)) (pw_or1 (pt_cmpR op_eq (pv 0) pe_str (nomark _))))) (pss_one
    (ps_ret (pe_tup (pa_cons pe_non (pa_cons (pe_c c_read_number hr (by decide) (by rfl) (pa_cons (pv 0) (pa_cons (pe_gc (by rfl) T.vMOST_FIGURES) pa_nil))) pa_nil))))) pss_nil)
    (pss_cons
    (ps_set (i := 1) scSumFrom.nd rfl (Or.inl rfl) pe_int)
    (pss_cut
    (ps_while PassesOwn.never (PW.pt (pw_and (pt_cmpR op_lt (pv 1) (pe_callB call_len_str (by rfl) T.len_ (by decide +kernel) (pa_cons (pv 0) pa_nil)) (nomark _)) (pw_and1 (pt_cmpR op_notIn_sign (pe_ix ix_str (pv 0) (pv 1) (fun _ _ => rfl)) pe_str (by rfl))))) (pss_one
    (ps_aug (i := 1) scSumFrom.nd rfl (Or.inl rfl) pe_int ip_add)))
    (pss_cons
    (ps_set (i := 2) scSumFrom.nd rfl (Or.inl rfl) pe_int)
    (pss_cut
    (ps_if (pt_cmpR op_lt (pv 1) (pe_callB call_len_str (by rfl) T.len_ (by decide +kernel) (pa_cons (pv 0) pa_nil)) (nomark _)) (pss_cons
    (ps_set (i := 2) scSumFrom.nd rfl (Or.inl rfl) (pe_c c_read_number hr (by decide) (by rfl) (pa_cons (pe_slice C8.sl_txt (pv 0) (po_some (pe_op op_add (pv 1) (pe_callTy call_int1 (by rfl) T.int_ (by decide +kernel) (pa_cons (pe_cmpR op_eq (pe_ix ix_str (pv 0) (pv 1) (fun _ _ => rfl)) pe_str (nomark _)) pa_nil)))) po_none) (pa_cons (pe_gc (by rfl) T.vMOST_FIGURES) pa_nil))))
    (pss_one
    (ps_expr (pe_c c_must_be hr (by decide) (by rfl) (pa_cons (pe_cmpR op_ne (pv 2) pe_int (nomark _)) pa_nil))))) pss_nil)
    (pss_cons
    (ps_set (i := 3) scSumFrom.nd rfl (Or.inl rfl) (pe_split (pe_slice C8.sl_txt (pv 0) po_none (po_some (pv 1))) pe_str))
    (pss_cons
    (ps_expr (pe_c c_must_be hr (by decide) (by rfl) (pa_cons (pe_cmpR op_lt (pe_callB call_len_seq (by rfl) T.len_ (by decide +kernel) (pa_cons (pv 3) pa_nil)) pe_int (nomark _)) pa_nil)))
    (pss_cons
    (ps_if (pt_cmpR op_eq (pe_callB call_len_seq (by rfl) T.len_ (by decide +kernel) (pa_cons (pv 3) pa_nil)) pe_int (nomark _)) (pss_one
    (ps_ret (pe_tup (pa_cons (pe_callTy (call_tuple_ofK (K := K)) (by rfl) T.tuple_ (by decide +kernel) (pa_cons (pv 3) pa_nil)) (pa_cons (pv 2) pa_nil))))) pss_nil)
    (pss_one
    (ps_ret (pe_tup (pa_cons (pe_ix (ix_listK (K := K)) (pv 3) pe_int (fun _ _ => rfl)) (pa_cons (pv 2) pa_nil))))))))))))), ?_⟩
  have wl := smT_len ok
  have hsz : (S (smT (b, n))).length ≤ sizeLine := by rw [S_len]; exact sz_small (by omega)
  by_cases hb : b = .non
  · subst hb
    have e0 : smT (Bs.non, n) = numT n := rfl
    obtain ⟨c, r, ec⟩ : ∃ c r, numT n = c :: r := by
      have h1 := numL_pos n.natAbs
      cases e : numT n with
      | nil =>
        unfold numT at e
        split at e
        · cases e
        · rw [e] at h1
          exact absurd h1 (by decide)
      | cons c r => exact ⟨c, r, rfl⟩
    have hc := numT_head ec
    refine ⟨_, rfl, 1, rfl, _, rfl, hsz, c, _, congrArg V.str (by rw [e0, ec]; exact slice_one c r), rfl, _, rfl, if_t ?_ (iteT ?_)⟩
    · rw [letters_cps]
      have : c ∉ zLetters := fun h => by
        have := letters_mem h
        omega
      rw [decide_eq_false this]
      rfl
    · refine ⟨_, rfl, n, rfl, on, fun H1 a1 => ⟨sz_small (show 2 ≤ 16000000 by decide), fun t nt => ?_⟩⟩
      exact q _ _ (a1.trans (same_new nt)) (.tup (SqT.of upd_same) (.cons .non (.cons (.int n) .nil)))
  · obtain ⟨c, r, ec, hc1, hc2⟩ := base_head ob hb
    have ew : smT (b, n) = baseT b ++ moreT n := smT_base hb
    have bl := baseT_len ob
    have lw : (smT (b, n)).length = (baseT b).length + (moreT n).length := by rw [ew, List.length_append]
    have pm : (Str.ofString "+-").cps.toList = [43, 45] := by decide +kernel
    refine ⟨_, rfl, 1, rfl, _, rfl, hsz, c, _, congrArg V.str (by rw [ew, ec]; exact slice_one c _), rfl, _, rfl, if_f ?_ ?_⟩
    · rw [letters_cps, decide_eq_true (mem_letters ⟨hc1, hc2⟩)]
      rfl
    refine ⟨_, rfl, rfl, _, rfl, if_f (decide_eq_false fun h => ?_) ?_⟩
    · have h := V.str.inj h
      have e : Str.ofString "" = S [] := by decide +kernel
      rw [e] at h
      have h := S_inj h
      rw [ew, ec] at h
      cases h
    refine ⟨fun σ' H' => H = H' ∧ σ' = [some (.str (S (smT (b, n)))), some (.int ((baseT b).length : Nat)), none, none], ?_, ?_⟩
    · refine ⟨fun m σ' H' => H = H' ∧ ∃ i : Nat, i + m = (baseT b).length ∧ σ' = [some (.str (S (smT (b, n)))), some (.int (i : Int)), none, none], ⟨_, rfl, 0, Nat.zero_add _, rfl⟩, ?_⟩
      rintro m σ' H' ⟨rfl, i, hi, rfl⟩
      refine ⟨_, rfl, _, rfl, _, rfl, hsz, _, _, rfl, rfl, _, rfl, ?_⟩
      cases m with
      | zero =>
        have hi : i = (baseT b).length := hi
        subst hi
        by_cases n0 : n = 0
        · have em : moreT n = [] := by
            subst n0
            rfl
          refine if_f (decide_eq_false ?_) (iteF ⟨rfl, rfl⟩)
          rw [S_len, lw, em]
          simp
        · obtain ⟨sg, r2, em⟩ : ∃ sg r2, moreT n = sg :: r2 := by
            cases e : moreT n with
            | nil =>
              exfalso
              unfold moreT at e
              rw [if_neg n0] at e
              split at e <;> cases e
            | cons sg r2 => exact ⟨sg, r2, rfl⟩
          have hsg := moreT_head em
          refine if_t (decide_eq_true ?_) ?_
          · rw [S_len, lw, em, List.length_cons]
            omega
          · refine ⟨_, rfl, _, rfl, _, _, sg, rfl, rfl, hsz, ?_, sg, _, rfl, rfl, _, rfl, if_f ?_ ⟨rfl, rfl⟩⟩
            · show atI (smT (b, n)) ((baseT b).length : Nat) = some sg
              refine at_of' rfl ?_
              rw [ew, em, List.getElem?_append_right (Nat.le_refl _), Nat.sub_self]
              rfl
            · rw [pm]
              rcases hsg with h | h
              · subst h; rfl
              · subst h; rfl
      | succ m =>
        have il : i < (baseT b).length := by omega
        refine if_t (decide_eq_true ?_) ?_
        · rw [S_len, lw]
          omega
        · have hd := base_signs ob _ (List.getElem_mem il)
          refine ⟨_, rfl, _, rfl, _, _, (baseT b)[i], rfl, rfl, hsz, ?_, (baseT b)[i], _, rfl, rfl, _, rfl, if_t ?_ ?_⟩
          · show atI (smT (b, n)) (i : Int) = some (baseT b)[i]
            refine at_of' rfl ?_
            rw [ew, List.getElem?_append_left il, List.getElem?_eq_getElem il]
          · rw [pm]
            have h1 : (baseT b)[i] ≠ 43 := by omega
            have h2 : (baseT b)[i] ≠ 45 := by omega
            simp [h1, h2]
          · refine ⟨fun σ' H' => H = H' ∧ ∃ i : Nat, i + m = (baseT b).length ∧ σ' = [some (.str (S (smT (b, n)))), some (.int (i : Int)), none, none], fun σ' H' hN => ⟨m, by omega, hN⟩, ?_⟩
            exact ⟨_, rfl, _, _, rfl, rfl, rfl, i + 1, by omega, rfl⟩
    · rintro σ' H' ⟨rfl, rfl⟩
      refine ⟨fun σ' H' => Same H H' ∧ σ' = [some (.str (S (smT (b, n)))), some (.int ((baseT b).length : Nat)), some (.int n), none], ?_, ?_⟩
      · refine ⟨_, rfl, _, rfl, _, rfl, hsz, _, _, rfl, rfl, _, rfl, ?_⟩
        by_cases n0 : n = 0
        · subst n0
          have em : moreT 0 = [] := rfl
          refine if_f (decide_eq_false ?_) ⟨Same.refl H, rfl⟩
          rw [S_len, lw, em]
          simp
        · obtain ⟨sg, r2, em, esl⟩ : ∃ sg r2, moreT n = sg :: r2 ∧ ∀ k : Int, (if decide (V.str (⟨#[sg]⟩ : Str) = V.str (Str.ofString "+")) = true then (1 : Int) else 0) = k → Txt.slice (S (smT (b, n))) (some (((baseT b).length : Nat) + k)) none = S (numT n) := by
            by_cases np : 0 < n
            · refine ⟨43, numT n, moreT_pos np, fun k hk => ?_⟩
              have : k = 1 := by
                rw [← hk]
                exact if_pos (by decide +kernel)
              rw [this, ew, moreT_pos np, slice_from (by omega)]
              refine congrArg S ?_
              rw [show (((baseT b).length : Nat) + (1 : Int)).toNat = (baseT b).length + 1 by omega, ← List.drop_drop, List.drop_left]
              rfl
            · obtain ⟨e1, r2, e2⟩ := moreT_neg (show n < 0 by omega)
              refine ⟨45, r2, by rw [e1, e2], fun k hk => ?_⟩
              have : k = 0 := by
                rw [← hk]
                exact if_neg (by decide +kernel)
              rw [this, ew, e1, slice_from (by omega)]
              refine congrArg S ?_
              rw [show (((baseT b).length : Nat) + (0 : Int)).toNat = (baseT b).length by omega, List.drop_left]
          refine if_t (decide_eq_true ?_) ?_
          · rw [S_len, lw, em, List.length_cons]
            omega
          · refine ⟨_, rfl, _, rfl, _, rfl, _, rfl, _, _, sg, rfl, rfl, hsz, ?_, rfl, .inr ⟨_, rfl, _, _, rfl, rfl, _, rfl, _, rfl, hsz, n, congrArg (fun z => [V.str z, V.int 30]) (esl _ rfl), on, fun H1 a1 => ?_⟩⟩
            · show atI (smT (b, n)) ((baseT b).length : Nat) = some sg
              refine at_of' rfl ?_
              rw [ew, em, List.getElem?_append_right (Nat.le_refl _), Nat.sub_self]
              rfl
            · refine ⟨_, rfl, rfl, congrArg (fun z => [V.bl z]) ?_, a1, rfl⟩
              have : ¬ V.int n = V.int 0 := fun h => n0 (V.int.inj h)
              rw [decide_eq_false this]
              rfl
      · rintro σ' H1 ⟨a1, rfl⟩
        refine ⟨_, rfl, _, rfl, _, rfl, _, rfl, hsz, ⟨_, rfl⟩, _, _, rfl, rfl, by decide +kernel, ?_, ?_⟩
        · rw [ew, to_app (baseT b) (moreT n) rfl, S_len]
          exact sz_small (by omega)
        · rw [ew, to_app (baseT b) (moreT n) rfl, split_base ob hb]
          intro p np
          have hp : upd H1 p (.lst (((partsT b).map S).map V.str)) p = some (.lst (strV (partsT b))) := by
            rw [upd_same, strV_S]
          have a2 := same_new (o := .lst (((partsT b).map S).map V.str)) np
          generalize upd H1 p (.lst (((partsT b).map S).map V.str)) = H2 at hp a2
          cases b with
          | non => exact absurd rfl hb
          | num z =>
            refine ⟨_, rfl, p, _, rfl, .inl (SqL.of hp), _, _, rfl, rfl, rfl, ?_⟩
            refine ⟨_, rfl, p, _, rfl, .inl (SqL.of hp), rfl, _, rfl, if_f rfl ?_⟩
            refine ⟨_, rfl, p, _, 0, _, rfl, rfl, SqL.of hp, rfl, _, rfl, sz_small (show 2 ≤ 16000000 by decide), fun t nt => ?_⟩
            exact q _ _ (a1.trans (a2.trans (same_new nt))) (.tup (SqT.of upd_same) (.cons (.str _) (.cons (.int n) .nil)))
          | cell r' p' =>
            refine ⟨_, rfl, p, _, rfl, .inl (SqL.of hp), _, _, rfl, rfl, rfl, ?_⟩
            refine ⟨_, rfl, p, _, rfl, .inl (SqL.of hp), rfl, _, rfl, if_t rfl ?_⟩
            refine ⟨_, rfl, p, _, rfl, .inl ⟨SqL.of hp, fun u nu => ⟨_, rfl, sz_small (show 2 ≤ 16000000 by decide), fun t nt => ?_⟩⟩⟩
            have a3 := same_new (o := .tup (strV (partsT (.cell r' p')))) nu
            refine q _ _ (a1.trans (a2.trans (a3.trans (same_new nt)))) (.tup (SqT.of upd_same) (.cons (.tup (Same.sqT (same_new nt) (SqT.of upd_same)) (.cons (.str _) (.cons (.str _) .nil))) (.cons (.int n) .nil)))
end
end Ep

/-! 21. show_saying. -/
namespace Ep
open PySem PySem.Spec PyProof.Rows L2 SX
open C8 (Cal Met Mak Def cal0 met0 mak0 pe_c pe_mk pe_mt pe_mt0 fnBody fnScope fnArgs fnScope_by pe_gc pss_cut)
abbrev jn32 (ts : List (List Nat)) : List Nat := TL.joinL [32] ts
/-- a saying's text -/
def text (s : Say) : List Nat := jn32 (toks s)
theorem toks_ne (s : Say) : toks s ≠ [] := by
  obtain ⟨r, e⟩ := toks_head s
  rw [e]
  exact List.cons_ne_nil _ _
theorem jn_cons {t : List Nat} {ts : List (List Nat)} (h : ts ≠ []) : jn32 (t :: ts) = t ++ 32 :: jn32 ts := by
  cases ts with
  | nil => exact absurd rfl h
  | cons a r => rfl
theorem jn_app : ∀ {a b : List (List Nat)}, a ≠ [] → b ≠ [] → jn32 (a ++ b) = jn32 a ++ 32 :: jn32 b
  | [], _, h, _ => absurd rfl h
  | [t], b, _, hb => jn_cons hb
  | t :: u :: r, b, _, hb => by
    have ih := jn_app (a := u :: r) (b := b) (List.cons_ne_nil _ _) hb
    rw [List.cons_append, jn_cons (by simp), ih, jn_cons (List.cons_ne_nil _ _), List.append_assoc]
    rfl
theorem jn_groups : ∀ gs : List (List (List Nat)), (∀ g ∈ gs, g ≠ []) → jn32 (gs.map jn32) = jn32 gs.flatten
  | [], _ => rfl
  | [g], _ => by
    show jn32 g = jn32 ([g].flatten)
    rw [List.flatten_cons, List.flatten_nil, List.append_nil]
  | g :: h :: r, hg => by
    have ih := jn_groups (h :: r) fun x hx => hg x (List.mem_cons_of_mem _ hx)
    have hne : (h :: r).flatten ≠ [] := by
      rw [List.flatten_cons]
      intro e
      exact hg h (List.mem_cons_of_mem _ (List.mem_cons_self ..)) (List.append_eq_nil_iff.mp e).1
    rw [List.map_cons, jn_cons (by simp), ih]
    exact (jn_app (hg g (List.mem_cons_self ..)) hne).symm
theorem toksAll_flat : ∀ ss : List Say, toksAll ss = (ss.map toks).flatten
  | [] => by simp [toksAll]
  | s :: ss => by simp [toksAll, toksAll_flat ss]
theorem text_jn (k : Bool) (ss : List Say) : text (.jn k ss) = jn32 ([wd (jw k), wd "("] ++ ss.map text ++ [wd ")"]) := by
  have e : [wd (jw k), wd "("] ++ ss.map text ++ [wd ")"] = ([[wd (jw k)], [wd "("]] ++ ss.map toks ++ [[wd ")"]]).map jn32 := by
    rw [List.map_append, List.map_append, List.map_map]
    rfl
  rw [e, jn_groups]
  · unfold text
    rw [toks, toksAll_flat]
    refine congrArg jn32 ?_
    rw [List.flatten_append, List.flatten_append]
    rfl
  · intro g hg
    rcases List.mem_append.mp hg with hg | hg
    · rcases List.mem_append.mp hg with hg | hg
      · rcases List.mem_cons.mp hg with h | h
        · rw [h]
          exact List.cons_ne_nil _ _
        · rw [List.mem_singleton.mp h]
          exact List.cons_ne_nil _ _
      · obtain ⟨s, _, rfl⟩ := List.mem_map.mp hg
        exact toks_ne s
    · rw [List.mem_singleton.mp hg]
      exact List.cons_ne_nil _ _
theorem text_no (s : Say) : text (.no s) = wd "not" ++ 32 :: text s := by
  unfold text
  rw [toks, jn_cons (toks_ne s)]
theorem text_iff (s t : Say) : text (.iff s t) = wd "if" ++ 32 :: (text s ++ 32 :: text t) := by
  unfold text
  rw [toks, jn_cons (fun e => toks_ne s (List.append_eq_nil_iff.mp e).1), jn_app (toks_ne s) (toks_ne t)]
theorem text_ea (x : List Nat) (s : Say) : text (.ea x s) = jn32 [wd "each", x] ++ 32 :: text s := by
  unfold text
  rw [toks]
  exact jn_app (a := [wd "each", x]) (List.cons_ne_nil _ _) (toks_ne s)
theorem text_pa (x y : List Nat) (s : Say) : text (.pa x y s) = jn32 [wd "pairs", x, y] ++ 32 :: text s := by
  unfold text
  rw [toks]
  exact jn_app (a := [wd "pairs", x, y]) (List.cons_ne_nil _ _) (toks_ne s)
theorem text_cmp (k : Cw) (a b : Sm) : text (.cmp k a b) = wd k.s ++ 32 :: (smT a ++ 32 :: smT b) := by
  unfold text
  rw [toks]
  rfl
theorem text_pl (k : Pw) (p q : List Nat) : text (.pl k p q) = jn32 [wd k.s, p, q] := by
  unfold text
  rw [toks]
/-! ### lengths -/
def tL : Nat → Nat
  | 0 => 0
  | d + 1 => 4 * tL d + 100
theorem tL_mono : ∀ {a b : Nat}, a ≤ b → tL a ≤ tL b
  | 0, _, _ => Nat.zero_le _
  | a + 1, b + 1, h => by
    have := tL_mono (a := a) (b := b) (by omega)
    show 4 * tL a + 100 ≤ 4 * tL b + 100
    omega
  | _ + 1, 0, h => absurd h (by omega)
theorem wd_cw (k : Cw) : (wd k.s).length ≤ 6 := by cases k <;> decide +kernel
theorem wd_pw (k : Pw) : (wd k.s).length ≤ 6 := by cases k <;> decide +kernel
theorem wd_jw (k : Bool) : (wd (jw k)).length ≤ 6 := by cases k <;> decide +kernel
theorem jn_len : ∀ ts : List (List Nat), (jn32 ts).length ≤ (ts.map (·.length)).sum + ts.length
  | [] => Nat.le_refl _
  | [t] => by
    show t.length ≤ (t.length + 0) + 1
    omega
  | t :: u :: r => by
    have ih := jn_len (u :: r)
    rw [jn_cons (List.cons_ne_nil _ _), List.length_append, List.length_cons, List.map_cons, List.sum_cons, List.length_cons]
    omega
theorem nlen {z : List Nat} (h : nameOk z = true) : z.length ≤ 8 := (nameOk_iff.mp h).2.1
mutual
theorem text_len : ∀ s : Say, sOk s = true → (text s).length ≤ tL (dep s)
  | .cmp k a b, h => by
    have h : mOk a = true ∧ mOk b = true := by simpa [sOk] using h
    have h1 := smT_len h.1
    have h2 := smT_len h.2
    have h3 := wd_cw k
    rw [text_cmp, List.length_append, List.length_cons, List.length_append, List.length_cons]
    simp only [dep, tL]
    omega
  | .pl k p q, h => by
    have h : nameOk p = true ∧ nameOk q = true := by simpa [sOk] using h
    have h1 := nlen h.1
    have h2 := nlen h.2
    have h3 := wd_pw k
    have h4 := jn_len [wd k.s, p, q]
    simp only [List.map_cons, List.map_nil, List.sum_cons, List.sum_nil, List.length_cons, List.length_nil] at h4
    rw [text_pl]
    simp only [dep, tL]
    omega
  | .no s, h => by
    have ih := text_len s (by simpa [sOk] using h)
    have h3 : (wd "not").length = 3 := by decide +kernel
    rw [text_no, List.length_append, List.length_cons]
    simp only [dep, tL]
    omega
  | .jn k ss, h => by
    have h : ss.length ≤ 4 ∧ sOkAll ss = true := by simpa [sOk] using h
    have ih := text_lens ss h.2
    have h3 := wd_jw k
    have h4 := jn_len ([wd (jw k), wd "("] ++ ss.map text ++ [wd ")"])
    have h5 : (wd "(").length = 1 := by decide +kernel
    have h6 : (wd ")").length = 1 := by decide +kernel
    have hm : ss.length * tL (depAll ss) ≤ 4 * tL (depAll ss) := Nat.mul_le_mul_right _ h.1
    rw [List.map_append, List.map_append, List.sum_append, List.sum_append, List.length_append, List.length_append, List.length_map] at h4
    simp only [List.map_cons, List.map_nil, List.sum_cons, List.sum_nil, List.length_cons, List.length_nil] at h4
    rw [text_jn]
    simp only [dep, tL]
    omega
  | .iff s t, h => by
    have h : sOk s = true ∧ sOk t = true := by simpa [sOk] using h
    have i1 := text_len s h.1
    have i2 := text_len t h.2
    have m1 := tL_mono (Nat.le_max_left (dep s) (dep t))
    have m2 := tL_mono (Nat.le_max_right (dep s) (dep t))
    have h3 : (wd "if").length = 2 := by decide +kernel
    rw [text_iff, List.length_append, List.length_cons, List.length_append, List.length_cons]
    simp only [dep, tL]
    omega
  | .ea x s, h => by
    have h : nameOk x = true ∧ sOk s = true := by simpa [sOk] using h
    have ih := text_len s h.2
    have h1 := nlen h.1
    have h3 : (wd "each").length = 4 := by decide +kernel
    have h4 := jn_len [wd "each", x]
    simp only [List.map_cons, List.map_nil, List.sum_cons, List.sum_nil, List.length_cons, List.length_nil] at h4
    rw [text_ea, List.length_append, List.length_cons]
    simp only [dep, tL]
    omega
  | .pa x y s, h => by
    have h : (nameOk x = true ∧ nameOk y = true) ∧ sOk s = true := by simpa [sOk] using h
    have ih := text_len s h.2
    have h1 := nlen h.1.1
    have h2 := nlen h.1.2
    have h3 : (wd "pairs").length = 5 := by decide +kernel
    have h4 := jn_len [wd "pairs", x, y]
    simp only [List.map_cons, List.map_nil, List.sum_cons, List.sum_nil, List.length_cons, List.length_nil] at h4
    rw [text_pa, List.length_append, List.length_cons]
    simp only [dep, tL]
    omega
theorem text_lens : ∀ ss : List Say, sOkAll ss = true → ((ss.map text).map (·.length)).sum ≤ ss.length * tL (depAll ss)
  | [], _ => by simp
  | s :: ss, h => by
    have h : sOk s = true ∧ sOkAll ss = true := by simpa [sOkAll] using h
    have i1 := text_len s h.1
    have i2 := text_lens ss h.2
    have m1 := tL_mono (Nat.le_max_left (dep s) (depAll ss))
    have m2 := Nat.mul_le_mul_left ss.length (tL_mono (Nat.le_max_right (dep s) (depAll ss)))
    simp only [List.map_cons, List.sum_cons, List.length_cons, depAll, Nat.add_mul, Nat.one_mul]
    omega
end
theorem text_small {s : Say} (h : sOk s = true) (hd : dep s ≤ 7) : (text s).length ≤ 600000 := Nat.le_trans (text_len s h) (Nat.le_trans (tL_mono hd) (by decide))
theorem sp32 : Str.ofString " " = S [32] := by decide +kernel
section
variable {P : Program} {w : World} {K : PySem.W.Frag} {mg : Str → Option Value} {base : Heap} {A : Ad}
abbrev sShowSaying : Stmt := top 36
abbrev nShowSaying : List Str := ["saying", "word", "part"]
theorem scShowSaying : FnScope nShowSaying ["saying"] (fnScope sShowSaying) := fnScope_by (by decide +kernel)
def spShow (K : PySem.W.Frag) (n : Nat) : Sp := fun vs H Q _ => ∃ (v : V) (s : Say), vs = [v] ∧ Dp K H v (enc s) ∧ sOk s = true ∧ dep s ≤ n ∧ dep s ≤ 7 ∧ ∀ H', Same H H' → Q (.str (S (text s))) H'
theorem join_use {K : PySem.W.Frag} {H : Hp} {Q : VK} {p : Addr} {zs : List (List Nat)} (h : SqL K H p (strV zs) ∨ SqT K H p (strV zs)) (hl : (zs.map (·.length)).sum + zs.length ≤ 16000000) (q : Q (.str (S (jn32 zs))) H) :
    ∃ a p', ∃ ys : List Str, V.str (Str.ofString " ") = .str a ∧ [V.ref p] = [.ref p'] ∧ (SqL K H p' (ys.map V.str) ∨ SqT K H p' (ys.map V.str)) ∧ (ys.map (·.length)).sum + ys.length * a.length ≤ 16777216 ∧ Q (.str (Txt.join a ys)) H := by
  refine ⟨_, p, zs.map S, rfl, rfl, ?_, ?_, ?_⟩
  · rw [strV_S]
    exact h
  · rw [lens, List.length_map, show (Str.ofString " ").length = 1 by decide +kernel]
    omega
  · rw [sp32, join_S]
    exact q
theorem jn_sp (zs : List (List Nat)) : V.str (Txt.join (Str.ofString " ") (zs.map S)) = .str (S (jn32 zs)) := by
  rw [sp32, join_S]
theorem jn_fit {zs : List (List Nat)} (hl : (zs.map (·.length)).sum + zs.length ≤ 16000000) : ((zs.map S).map (·.length)).sum + (zs.map S).length * (Str.ofString " ").length ≤ 16777216 := by
  rw [lens, List.length_map, show (Str.ofString " ").length = 1 by decide +kernel]
  omega
theorem ok_show (T : Tx K mg A) (c_show_sum : Cal P w K mg base 2 "show_sum" (spShowSum K) []) (D : Dfn K mg "show_saying" sShowSaying) :
    ∀ n, Cal P w K mg base (3 + n) "show_saying" (spShow K n) []
  | 0 => cal_none (ps := ["saying"]) D (fun _ _ _ _ _ _ us hl => match us, hl with | [_], _ => rfl) (fun vs H Q E h => by
    obtain ⟨v, s, _, _, _, h, _⟩ := h
    have := dep_pos s
    omega)
  | n + 1 => by
    have c_show_saying := ok_show T c_show_sum D n
    refine cal_of (k := 3 + n) D scShowSaying (fun _ _ _ _ _ _ us hl => match us, hl with | [_], _ => rfl) (fun vs H Q E h => ?_) (fun f cdv A outer s0 H vs Q E hr h => ?_)
    · obtain ⟨v, s, rfl, _⟩ := h
      rfl
    obtain ⟨v, s, rfl, hD, hs, hd, hd7, q⟩ := h
    have hr3 : Room 3 _ := hr.mono (Nat.le_add_right 3 n)
    refine ⟨_, (pss_cons
    (ps_set (i := 1) scShowSaying.nd rfl (Or.inl rfl) (pe_ix (ix_tupK (K := K)) (pv 0) pe_int (fun _ _ => rfl)))
    (pss_cons
    (ps_if (pt_cmpR op_in_seq (pv 1) (pe_gc (by rfl) T.vCOMPARING) (by rfl)) (pss_one
    (ps_ret (pe_op op_add_str (pe_op op_add_str (pe_op op_add_str (pe_op op_add_str (pv 1) pe_str) (pe_c c_show_sum hr3 (by decide) (by rfl) (pa_cons (pe_ix (ix_tupK (K := K)) (pv 0) pe_int (fun _ _ => rfl)) pa_nil))) pe_str) (pe_c c_show_sum hr3 (by decide) (by rfl) (pa_cons (pe_ix (ix_tupK (K := K)) (pv 0) pe_int (fun _ _ => rfl)) pa_nil))))) pss_nil)
    (pss_cons
    (ps_if (pt_cmpR op_in_seq (pv 1) (pe_gc (by rfl) T.vJOINING) (by rfl)) (pss_one
    (ps_ret (pe_join pe_str (pe_op op_cat (pe_op op_cat (pe_lst (pa_cons (pv 1) (pa_cons pe_str pa_nil))) (pe_lc (own := [("part", 2)]) (g := gName 2) (tt := tYes) rfl scShowSaying.nd (pi_tup (pe_ix (ix_tupK (K := K)) (pv 0) pe_int (fun _ _ => rfl))) (blkOk_by (own := [("part", 2)]) (N := nShowSaying) (sc := fnScope sShowSaying) (by decide +kernel)) (fun _ _ _ _ _ => pg_name (i := 2) scShowSaying.nd rfl (Or.inl rfl)) (fun _ _ _ _ _ => pts_nil) (fun _ _ _ _ _ => (pe_c c_show_saying hr (Nat.le_refl _) (by rfl) (pa_cons (pv 2) pa_nil))))) (pe_lst (pa_cons pe_str pa_nil)))))) pss_nil)
    (pss_cons
    (ps_if (PW.pt (pw_or (pt_cmpR op_eq (pv 1) pe_str (nomark _)) (pw_or (pt_cmpR op_eq (pv 1) pe_str (nomark _)) (pw_or1 (pt_cmpR op_eq (pv 1) pe_str (nomark _)))))) (pss_one
    (ps_ret (pe_op op_add_str (pe_op op_add_str (pe_join pe_str (pe_slice sl_tupA (pv 0) po_none (po_some (pe_un un_neg pe_int)))) pe_str) (pe_c c_show_saying hr (Nat.le_refl _) (by rfl) (pa_cons (pe_ix (ix_tupK (K := K)) (pv 0) (pe_un un_neg pe_int) (fun _ _ => rfl)) pa_nil))))) pss_nil)
    (pss_cons
    (ps_if (pt_cmpR op_eq (pv 1) pe_str (nomark _)) (pss_one
    (ps_ret (pe_op op_add_str (pe_op op_add_str (pe_op op_add_str pe_str (pe_c c_show_saying hr (Nat.le_refl _) (by rfl) (pa_cons (pe_ix (ix_tupK (K := K)) (pv 0) pe_int (fun _ _ => rfl)) pa_nil))) pe_str) (pe_c c_show_saying hr (Nat.le_refl _) (by rfl) (pa_cons (pe_ix (ix_tupK (K := K)) (pv 0) pe_int (fun _ _ => rfl)) pa_nil))))) pss_nil)
    (pss_one
    (ps_ret (pe_join pe_str (pv 0))))))))), ?_⟩
    have tsm := text_small hs hd7
    cases s with
    | cmp k x y =>
      have hok : mOk x = true ∧ mOk y = true := by simpa [sOk] using hs
      rw [enc] at hD
      obtain ⟨t, xs, rfl, ht, da⟩ := dp_tup hD
      obtain ⟨v0, v1, v2, rfl, g0, g1, g2⟩ := dpa3 da
      rw [dp_str g0] at ht
      have l1 := smT_len hok.1
      have l2 := smT_len hok.2
      have l3 := wd_cw k
      refine ⟨_, rfl, t, _, 0, _, rfl, rfl, ht, rfl, _, rfl, _, _, rfl, .inr (T.tCOMPARING _), rfl, by decide +kernel, _, rfl, if_t (cwC k) ?_⟩
      refine ⟨_, rfl, _, _, rfl, rfl, ?_, _, rfl, t, _, 1, _, rfl, rfl, ht, rfl, v1, x, rfl, g1, hok.1, _, _, rfl, rfl, ?_, _, _, rfl, rfl, ?_, _, rfl, t, _, 2, _, rfl, rfl, ht, rfl, v2, y, rfl, g2, hok.2, _, _, rfl, rfl, ?_, ?_⟩
      · rw [sp32, S_len, S_len]
        exact sz_small (by show (wd k.s).length + 1 ≤ _; omega)
      · rw [sp32, S_cat, S_len, S_len, List.length_append]
        exact sz_small (by show (wd k.s).length + 1 + (smT x).length ≤ _; omega)
      · rw [sp32, S_cat, S_cat, S_len, S_len, List.length_append, List.length_append]
        exact sz_small (by show (wd k.s).length + 1 + (smT x).length + 1 ≤ _; omega)
      · rw [sp32, S_cat, S_cat, S_cat, S_len, S_len, List.length_append, List.length_append, List.length_append]
        exact sz_small (by show (wd k.s).length + 1 + (smT x).length + 1 + (smT y).length ≤ _; omega)
      · rw [sp32, S_cat, S_cat, S_cat, S_cat]
        have := q H (Same.refl H)
        rw [text_cmp] at this
        have e : wd k.s ++ [32] ++ smT x ++ [32] ++ smT y = wd k.s ++ 32 :: (smT x ++ 32 :: smT y) := by simp
        rw [e]
        exact this
    | pl k x y =>
      have hok : nameOk x = true ∧ nameOk y = true := by simpa [sOk] using hs
      rw [enc] at hD
      obtain ⟨t, xs, rfl, ht, da⟩ := dp_tup hD
      obtain ⟨v0, v1, v2, rfl, g0, g1, g2⟩ := dpa3 da
      rw [dp_str g0, dp_str g1, dp_str g2] at ht
      have ht' : SqT K H t (strV [wd k.s, x, y]) := ht
      have l1 := nlen hok.1
      have l2 := nlen hok.2
      have l3 := wd_pw k
      have nE : ∀ u ∈ ["each", "not", "pairs", "if"], decide (V.str (S (wd k.s)) = V.str (Str.ofString u)) = false := by cases k <;> decide +kernel
      refine ⟨_, rfl, t, _, 0, _, rfl, rfl, ht, rfl, _, rfl, _, _, rfl, .inr (T.tCOMPARING _), rfl, by decide +kernel, _, rfl, if_f (pwC k) ?_⟩
      refine ⟨_, rfl, _, _, rfl, .inr (T.tJOINING _), rfl, by decide +kernel, _, rfl, if_f (pwJ k) ?_⟩
      refine ⟨_, rfl, rfl, _, rfl, if_f (nE "each" (by decide)) ⟨_, rfl, rfl, _, rfl, if_f (nE "not" (by decide)) ⟨_, rfl, rfl, _, rfl, if_f (nE "pairs" (by decide)) ?_⟩⟩⟩
      refine ⟨_, rfl, rfl, _, rfl, if_f (nE "if" (by decide)) ⟨⟨_, rfl⟩, _, rfl, join_use (.inr ht') ?_ ?_⟩⟩
      · simp only [List.map_cons, List.map_nil, List.sum_cons, List.sum_nil, List.length_cons, List.length_nil]
        omega
      · have := q H (Same.refl H)
        rw [text_pl] at this
        exact this
    | no s =>
      have hok : sOk s = true := by simpa [sOk] using hs
      have hdd : dep s ≤ n ∧ dep s ≤ 7 := by
        simp only [dep] at hd hd7
        exact ⟨by omega, by omega⟩
      have tss := text_small hok hdd.2
      rw [enc] at hD
      obtain ⟨t, xs, rfl, ht, da⟩ := dp_tup hD
      obtain ⟨v0, v1, rfl, g0, g1⟩ := dpa2 da
      rw [dp_str g0] at ht
      refine ⟨_, rfl, t, _, 0, _, rfl, rfl, ht, rfl, _, rfl, _, _, rfl, .inr (T.tCOMPARING _), rfl, by decide +kernel, _, rfl, if_f (by decide +kernel) ?_⟩
      refine ⟨_, rfl, _, _, rfl, .inr (T.tJOINING _), rfl, by decide +kernel, _, rfl, if_f (by decide +kernel) ?_⟩
      refine ⟨_, rfl, rfl, _, rfl, if_f (by decide +kernel) ⟨_, rfl, rfl, _, rfl, if_t (by decide +kernel) (iteT ?_)⟩⟩
      refine ⟨⟨_, rfl⟩, _, rfl, 1, rfl, -1, rfl, cut_use ht fun q1 H1 a1 h1 => ?_⟩
      have h1 : SqT K H1 q1 (strV [wd "not"]) := h1
      refine ⟨_, q1, ([wd "not"] : List (List Nat)).map S, rfl, rfl, .inr (by rw [strV_S]; exact h1), jn_fit (by decide +kernel), ?_⟩
      have ht1 := Same.sqT a1 ht
      have ln : (wd "not").length = 3 := by decide +kernel
      refine ⟨_, _, jn_sp [wd "not"], rfl, ?_, _, rfl, 1, rfl, t, _, -1, _, rfl, rfl, ht1, rfl, v1, s, rfl, Dp.tups (Same.tups a1) _ (noL_enc s) g1, hok, hdd.1, hdd.2, fun H2 a2 => ⟨_, _, rfl, rfl, ?_, ?_⟩⟩
      · rw [sp32, S_len, S_len]
        exact sz_small (by show (wd "not").length + 1 ≤ _; omega)
      · rw [sp32, S_cat, S_len, S_len, List.length_append]
        exact sz_small (by show (wd "not").length + 1 + (text s).length ≤ _; omega)
      · rw [sp32, S_cat, S_cat]
        have := q H2 (a1.trans a2)
        rw [text_no] at this
        have e : jn32 [wd "not"] ++ [32] ++ text s = wd "not" ++ 32 :: text s := by
          show wd "not" ++ [32] ++ text s = _
          simp
        rw [e]
        exact this
    | ea x s =>
      have hok : nameOk x = true ∧ sOk s = true := by simpa [sOk] using hs
      have hdd : dep s ≤ n ∧ dep s ≤ 7 := by
        simp only [dep] at hd hd7
        exact ⟨by omega, by omega⟩
      have tss := text_small hok.2 hdd.2
      have l1 := nlen hok.1
      rw [enc] at hD
      obtain ⟨t, xs, rfl, ht, da⟩ := dp_tup hD
      obtain ⟨v0, v1, v2, rfl, g0, g1, g2⟩ := dpa3 da
      rw [dp_str g0, dp_str g1] at ht
      refine ⟨_, rfl, t, _, 0, _, rfl, rfl, ht, rfl, _, rfl, _, _, rfl, .inr (T.tCOMPARING _), rfl, by decide +kernel, _, rfl, if_f (by decide +kernel) ?_⟩
      refine ⟨_, rfl, _, _, rfl, .inr (T.tJOINING _), rfl, by decide +kernel, _, rfl, if_f (by decide +kernel) ?_⟩
      refine ⟨_, rfl, rfl, _, rfl, if_t (by decide +kernel) (iteT ?_)⟩
      refine ⟨⟨_, rfl⟩, _, rfl, 1, rfl, -1, rfl, cut_use ht fun q1 H1 a1 h1 => ?_⟩
      have h1 : SqT K H1 q1 (strV [wd "each", x]) := h1
      have ln : (wd "each").length = 4 := by decide +kernel
      have lj := jn_len [wd "each", x]
      simp only [List.map_cons, List.map_nil, List.sum_cons, List.sum_nil, List.length_cons, List.length_nil] at lj
      refine ⟨_, q1, ([wd "each", x] : List (List Nat)).map S, rfl, rfl, .inr (by rw [strV_S]; exact h1), jn_fit (by simp only [List.map_cons, List.map_nil, List.sum_cons, List.sum_nil, List.length_cons, List.length_nil]; omega), ?_⟩
      have ht1 := Same.sqT a1 ht
      refine ⟨_, _, jn_sp [wd "each", x], rfl, ?_, _, rfl, 1, rfl, t, _, -1, _, rfl, rfl, ht1, rfl, v2, s, rfl, Dp.tups (Same.tups a1) _ (noL_enc s) g2, hok.2, hdd.1, hdd.2, fun H2 a2 => ⟨_, _, rfl, rfl, ?_, ?_⟩⟩
      · rw [sp32, S_len, S_len]
        exact sz_small (by show (jn32 [wd "each", x]).length + 1 ≤ _; omega)
      · rw [sp32, S_cat, S_len, S_len, List.length_append]
        exact sz_small (by show (jn32 [wd "each", x]).length + 1 + (text s).length ≤ _; omega)
      · rw [sp32, S_cat, S_cat]
        have := q H2 (a1.trans a2)
        rw [text_ea] at this
        rw [List.append_assoc]
        exact this
    | pa x y s =>
      have hok : (nameOk x = true ∧ nameOk y = true) ∧ sOk s = true := by simpa [sOk] using hs
      have hdd : dep s ≤ n ∧ dep s ≤ 7 := by
        simp only [dep] at hd hd7
        exact ⟨by omega, by omega⟩
      have tss := text_small hok.2 hdd.2
      have l1 := nlen hok.1.1
      have l2 := nlen hok.1.2
      rw [enc] at hD
      obtain ⟨t, xs, rfl, ht, da⟩ := dp_tup hD
      obtain ⟨v0, v1, v2, v3, rfl, g0, g1, g2, g3⟩ := dpa4 da
      rw [dp_str g0, dp_str g1, dp_str g2] at ht
      refine ⟨_, rfl, t, _, 0, _, rfl, rfl, ht, rfl, _, rfl, _, _, rfl, .inr (T.tCOMPARING _), rfl, by decide +kernel, _, rfl, if_f (by decide +kernel) ?_⟩
      refine ⟨_, rfl, _, _, rfl, .inr (T.tJOINING _), rfl, by decide +kernel, _, rfl, if_f (by decide +kernel) ?_⟩
      refine ⟨_, rfl, rfl, _, rfl, if_f (by decide +kernel) ⟨_, rfl, rfl, _, rfl, if_f (by decide +kernel) ⟨_, rfl, rfl, _, rfl, if_t (by decide +kernel) ?_⟩⟩⟩
      refine ⟨⟨_, rfl⟩, _, rfl, 1, rfl, -1, rfl, cut_use ht fun q1 H1 a1 h1 => ?_⟩
      have h1 : SqT K H1 q1 (strV [wd "pairs", x, y]) := h1
      have ln : (wd "pairs").length = 5 := by decide +kernel
      have lj := jn_len [wd "pairs", x, y]
      simp only [List.map_cons, List.map_nil, List.sum_cons, List.sum_nil, List.length_cons, List.length_nil] at lj
      refine ⟨_, q1, ([wd "pairs", x, y] : List (List Nat)).map S, rfl, rfl, .inr (by rw [strV_S]; exact h1), jn_fit (by simp only [List.map_cons, List.map_nil, List.sum_cons, List.sum_nil, List.length_cons, List.length_nil]; omega), ?_⟩
      have ht1 := Same.sqT a1 ht
      refine ⟨_, _, jn_sp [wd "pairs", x, y], rfl, ?_, _, rfl, 1, rfl, t, _, -1, _, rfl, rfl, ht1, rfl, v3, s, rfl, Dp.tups (Same.tups a1) _ (noL_enc s) g3, hok.2, hdd.1, hdd.2, fun H2 a2 => ⟨_, _, rfl, rfl, ?_, ?_⟩⟩
      · rw [sp32, S_len, S_len]
        exact sz_small (by show (jn32 [wd "pairs", x, y]).length + 1 ≤ _; omega)
      · rw [sp32, S_cat, S_len, S_len, List.length_append]
        exact sz_small (by show (jn32 [wd "pairs", x, y]).length + 1 + (text s).length ≤ _; omega)
      · rw [sp32, S_cat, S_cat]
        have := q H2 (a1.trans a2)
        rw [text_pa] at this
        rw [List.append_assoc]
        exact this
    | iff x y =>
      have hok : sOk x = true ∧ sOk y = true := by simpa [sOk] using hs
      have hdd : (dep x ≤ n ∧ dep x ≤ 7) ∧ dep y ≤ n ∧ dep y ≤ 7 := by
        simp only [dep] at hd hd7
        exact ⟨⟨by omega, by omega⟩, by omega, by omega⟩
      have t1 := text_small hok.1 hdd.1.2
      have t2 := text_small hok.2 hdd.2.2
      rw [enc] at hD
      obtain ⟨t, xs, rfl, ht, da⟩ := dp_tup hD
      obtain ⟨v0, v1, v2, rfl, g0, g1, g2⟩ := dpa3 da
      rw [dp_str g0] at ht
      have i3 : Str.ofString "if " = S (wd "if" ++ [32]) := by decide +kernel
      have il : (wd "if").length = 2 := by decide +kernel
      refine ⟨_, rfl, t, _, 0, _, rfl, rfl, ht, rfl, _, rfl, _, _, rfl, .inr (T.tCOMPARING _), rfl, by decide +kernel, _, rfl, if_f (by decide +kernel) ?_⟩
      refine ⟨_, rfl, _, _, rfl, .inr (T.tJOINING _), rfl, by decide +kernel, _, rfl, if_f (by decide +kernel) ?_⟩
      refine ⟨_, rfl, rfl, _, rfl, if_f (by decide +kernel) ⟨_, rfl, rfl, _, rfl, if_f (by decide +kernel) ⟨_, rfl, rfl, _, rfl, if_f (by decide +kernel) ?_⟩⟩⟩
      refine ⟨_, rfl, rfl, _, rfl, if_t (by decide +kernel) ?_⟩
      refine ⟨_, rfl, t, _, 1, _, rfl, rfl, ht, rfl, v1, x, rfl, g1, hok.1, hdd.1.1, hdd.1.2, fun H1 a1 => ⟨_, _, rfl, rfl, ?_, _, _, rfl, rfl, ?_, _, rfl, t, _, 2, _, rfl, rfl, Same.sqT a1 ht, rfl, v2, y, rfl, Dp.tups (Same.tups a1) _ (noL_enc y) g2, hok.2, hdd.2.1, hdd.2.2, fun H2 a2 => ⟨_, _, rfl, rfl, ?_, ?_⟩⟩⟩
      · rw [i3, S_len, S_len, List.length_append]
        exact sz_small (by show (wd "if").length + 1 + (text x).length ≤ _; omega)
      · rw [i3, sp32, S_cat, S_len, S_len, List.length_append, List.length_append]
        exact sz_small (by show (wd "if").length + 1 + (text x).length + 1 ≤ _; omega)
      · rw [i3, sp32, S_cat, S_cat, S_len, S_len, List.length_append, List.length_append, List.length_append]
        exact sz_small (by show (wd "if").length + 1 + (text x).length + 1 + (text y).length ≤ _; omega)
      · rw [i3, sp32, S_cat, S_cat, S_cat]
        have := q H2 (a1.trans a2)
        rw [text_iff] at this
        have e : wd "if" ++ [32] ++ text x ++ [32] ++ text y = wd "if" ++ 32 :: (text x ++ 32 :: text y) := by simp
        rw [e]
        exact this
    | jn k ss =>
      have hok : ss.length ≤ 4 ∧ sOkAll ss = true := by simpa [sOk] using hs
      have hdd : ∀ s ∈ ss, sOk s = true ∧ dep s ≤ n ∧ dep s ≤ 7 := fun s hm => by
        simp only [dep] at hd hd7
        have := depAll_le.mp (Nat.le_refl _) s hm
        exact ⟨sOkAll_iff.mp hok.2 s hm, by omega, by omega⟩
      rw [enc, encAll_map] at hD
      obtain ⟨t, xs, rfl, ht, da⟩ := dp_tup hD
      obtain ⟨v0, v1, rfl, g0, g1⟩ := dpa2 da
      rw [dp_str g0] at ht
      obtain ⟨ta, ws, rfl, hws, dws⟩ := dp_tup g1
      have lws : ws.length = ss.length := by rw [DpAll.length dws, List.length_map]
      have jC : inV (.str (S (wd (jw k)))) (zCompared.map V.str) = false := by cases k <;> decide +kernel
      refine ⟨_, rfl, t, _, 0, _, rfl, rfl, ht, rfl, _, rfl, _, _, rfl, .inr (T.tCOMPARING _), rfl, by decide +kernel, _, rfl, if_f jC ?_⟩
      refine ⟨_, rfl, _, _, rfl, .inr (T.tJOINING _), rfl, by decide +kernel, _, rfl, if_t (jwJ k) ?_⟩
      refine ⟨⟨_, rfl⟩, _, rfl, sz_small (show 2 ≤ 16000000 by decide), fun l1 n1 => ?_⟩
      have a1 := same_new (o := .lst [V.str (S (wd (jw k))), V.str "("]) n1
      have h1 := upd_same (H := H) (a := l1) (o := .lst [V.str (S (wd (jw k))), V.str "("])
      generalize upd H l1 (.lst [V.str (S (wd (jw k))), V.str "("]) = H1 at a1 h1
      have h1 : H1 l1 = some (.lst (strV [wd (jw k), wd "("])) := h1
      refine ⟨_, rfl, t, _, 1, _, rfl, rfl, Same.sqT a1 ht, rfl, ta, rfl, ⟨_, Same.sqT a1 hws⟩, fun D nD => lc_tup (K := K) (a := ta) (xs := ws) (fun i H' => H' D = some (.lst (strV ((ss.take i).map text))) ∧ Same H1 H') ⟨by rw [upd_same]; rfl, same_new nD⟩ (fun i H' _ h => Same.sqT h.2 (Same.sqT a1 hws)) ?_ ?_⟩
      · rintro i x H2 hx ⟨hDl, sm⟩
        obtain ⟨d, hdd', hxd⟩ := DpAll.get dws hx
        rw [List.getElem?_map] at hdd'
        obtain ⟨s, hss, rfl⟩ : ∃ s, ss[i]? = some s ∧ enc s = d := by
          cases e : ss[i]? with
          | none =>
            rw [e] at hdd'
            cases hdd'
          | some s =>
            rw [e] at hdd'
            exact ⟨s, rfl, Option.some.inj hdd'⟩
        have hms := hdd s (List.mem_of_getElem? hss)
        refine ⟨rfl, _, rfl, x, s, rfl, Dp.tups (Same.tups (a1.trans sm)) _ (noL_enc s) hxd, hms.1, hms.2.1, hms.2.2, fun H3 a3 => ?_⟩
        refine ⟨_, a3 _ _ hDl, sz_lt (by rw [strV_len, List.length_map, List.length_take]; omega), ?_, Same.updN (sm.trans a3) nD⟩
        rw [upd_same, List.take_add_one, hss, List.map_append, ← strV_app]
        rfl
      · rintro H2 ⟨hDl, sm⟩
        rw [lws, List.take_length] at hDl
        refine ⟨l1, D, _, _, rfl, rfl, sm _ _ h1, hDl, sz_small (by rw [strV_len, strV_len, List.length_map]; show 2 + ss.length ≤ _; omega), fun l2 n2 => ⟨sz_small (show 1 ≤ 16000000 by decide), fun l3 n3 => ?_⟩⟩
        have a2 := same_new (o := .lst (strV [wd (jw k), wd "("] ++ strV (ss.map text))) n2
        have a3 := same_new (o := .lst [V.str ")"]) n3
        refine ⟨l2, l3, _, _, rfl, rfl, a3 _ _ upd_same, upd_same, sz_small ?_, fun l4 n4 => ?_⟩
        · rw [List.length_append, strV_len, strV_len, List.length_map]
          show 2 + ss.length + 1 ≤ _
          omega
        · have a4 := same_new (o := .lst (strV [wd (jw k), wd "("] ++ strV (ss.map text) ++ [V.str ")"])) n4
          have e4 : strV [wd (jw k), wd "("] ++ strV (ss.map text) ++ [V.str (Str.ofString ")")] = strV ([wd (jw k), wd "("] ++ ss.map text ++ [wd ")"]) := by
            rw [strV_app, ← strV_snoc]
            rfl
          refine join_use (.inl (by rw [← e4]; exact SqL.of upd_same)) ?_ ?_
          · have ih := text_lens ss hok.2
            have h3 := wd_jw k
            have h5 : (wd "(").length = 1 := by decide +kernel
            have h6 : (wd ")").length = 1 := by decide +kernel
            have hdl : depAll ss ≤ 7 := depAll_le.mpr fun s hm => (hdd s hm).2.2
            have hm : ss.length * tL (depAll ss) ≤ 4 * tL 7 := Nat.mul_le_mul hok.1 (tL_mono hdl)
            have h7 : tL 7 = 546100 := by decide
            rw [List.map_append, List.map_append, List.sum_append, List.sum_append, List.length_append, List.length_append, List.length_map]
            simp only [List.map_cons, List.map_nil, List.sum_cons, List.sum_nil, List.length_cons, List.length_nil]
            omega
          · have := q _ (a1.trans (sm.trans (a2.trans (a3.trans a4))))
            rw [text_jn] at this
            exact this
end
end Ep

/-! 22. Words: __init__, take, comes. -/
namespace Ep
open PySem PySem.Spec PyProof.Rows L2 SX
open C8 (Cal Met Mak Def cal0 met0 mak0 pe_c pe_mk pe_mt pe_mt0 fnBody fnScope fnArgs fnScope_by pe_gc pss_cut)
/-- a word of a text: signs that are seen -/
def vis (z : List Nat) : Bool := z.all fun c => decide (33 ≤ c) && decide (c ≤ 126)
theorem vis_iff {z : List Nat} : vis z = true ↔ ∀ c ∈ z, 33 ≤ c ∧ c ≤ 126 := by
  unfold vis
  rw [List.all_eq_true]
  constructor
  · intro h c hc
    have := h c hc
    rw [Bool.and_eq_true, decide_eq_true_eq, decide_eq_true_eq] at this
    exact this
  · intro h c hc
    rw [Bool.and_eq_true, decide_eq_true_eq, decide_eq_true_eq]
    exact h c hc
theorem vis_ok {z : List Nat} (h : vis z = true) : PyData.strOk (S z) = true := by
  unfold PyData.strOk
  rw [← Array.all_toList, List.all_eq_true]
  intro c hc
  have := vis_iff.mp h c hc
  exact decide_eq_true (by omega)
theorem vis_sp {z : List Nat} (h : vis z = true) : 32 ∉ z := fun hm => by
  have := vis_iff.mp h 32 hm
  omega
theorem vis_name {z : List Nat} (h : nameOk z = true) : vis z = true := vis_iff.mpr fun c hc => by
  have := (nameOk_iff.mp h).2.2 c hc
  omega
theorem vis_I : ∀ i : Fin 14, vis (wI i) = true := by decide +kernel
theorem vis_num (n : Nat) : vis (TL.numL n) = true := vis_iff.mpr fun c hc => by
  have := TL.numL_digits n c hc
  omega
theorem vis_cons {c : Nat} {z : List Nat} (hc : 33 ≤ c ∧ c ≤ 126) (h : vis z = true) : vis (c :: z) = true := vis_iff.mpr fun x hx => by
  rcases List.mem_cons.mp hx with e | hx
  · rw [e]
    exact hc
  · exact vis_iff.mp h x hx
theorem vis_app {y z : List Nat} (h1 : vis y = true) (h2 : vis z = true) : vis (y ++ z) = true := vis_iff.mpr fun x hx => by
  rcases List.mem_append.mp hx with hx | hx
  · exact vis_iff.mp h1 x hx
  · exact vis_iff.mp h2 x hx
theorem vis_numT (n : Int) : vis (numT n) = true := by
  unfold numT
  split
  · exact vis_cons (by omega) (vis_num _)
  · exact vis_num _
theorem vis_moreT (n : Int) : vis (moreT n) = true := by
  unfold moreT
  split
  · rfl
  · split
    · exact vis_cons (by omega) (vis_num _)
    · exact vis_cons (by omega) (vis_num _)
theorem vis_base {b : Bs} (h : bOk b = true) : vis (baseT b) = true := vis_iff.mpr fun c hc => by
  have := base_signs h c hc
  omega
theorem vis_sm {a : Sm} (h : mOk a = true) : vis (smT a) = true := by
  obtain ⟨b, n⟩ := a
  have hb := (mOk_iff.mp h).1
  by_cases e : b = .non
  · subst e
    exact vis_numT n
  · rw [smT_base e]
    exact vis_app (vis_base hb) (vis_moreT n)
mutual
theorem vis_toks : ∀ s : Say, sOk s = true → ∀ z ∈ toks s, vis z = true
  | .cmp k a b, h => by
    have h : mOk a = true ∧ mOk b = true := by simpa [sOk] using h
    intro z hz
    simp only [toks, List.mem_cons, List.not_mem_nil, or_false] at hz
    rcases hz with e | e | e
    · rw [e, cw_w]; exact vis_I _
    · rw [e]; exact vis_sm h.1
    · rw [e]; exact vis_sm h.2
  | .pl k p q, h => by
    have h : nameOk p = true ∧ nameOk q = true := by simpa [sOk] using h
    intro z hz
    simp only [toks, List.mem_cons, List.not_mem_nil, or_false] at hz
    rcases hz with e | e | e
    · rw [e, pw_w]; exact vis_I _
    · rw [e]; exact vis_name h.1
    · rw [e]; exact vis_name h.2
  | .no s, h => by
    have h : sOk s = true := by simpa [sOk] using h
    intro z hz
    simp only [toks, List.mem_cons] at hz
    rcases hz with e | e
    · rw [e, wd_not]; exact vis_I _
    · exact vis_toks s h z e
  | .jn k ss, h => by
    have h : ss.length ≤ 4 ∧ sOkAll ss = true := by simpa [sOk] using h
    intro z hz
    simp only [toks, List.mem_cons, List.mem_append, List.not_mem_nil, or_false] at hz
    rcases hz with e | e | e | e
    · rw [e, jw_w]; exact vis_I _
    · rw [e]; decide +kernel
    · exact vis_toksAll ss h.2 z e
    · rw [e]; decide +kernel
  | .iff s t, h => by
    have h : sOk s = true ∧ sOk t = true := by simpa [sOk] using h
    intro z hz
    simp only [toks, List.mem_cons, List.mem_append] at hz
    rcases hz with e | e | e
    · rw [e, wd_if]; exact vis_I _
    · exact vis_toks s h.1 z e
    · exact vis_toks t h.2 z e
  | .ea x s, h => by
    have h : nameOk x = true ∧ sOk s = true := by simpa [sOk] using h
    intro z hz
    simp only [toks, List.mem_cons] at hz
    rcases hz with e | e | e
    · rw [e, wd_each]; exact vis_I _
    · rw [e]; exact vis_name h.1
    · exact vis_toks s h.2 z e
  | .pa x y s, h => by
    have h : (nameOk x = true ∧ nameOk y = true) ∧ sOk s = true := by simpa [sOk] using h
    intro z hz
    simp only [toks, List.mem_cons] at hz
    rcases hz with e | e | e | e
    · rw [e, wd_pairs]; exact vis_I _
    · rw [e]; exact vis_name h.1.1
    · rw [e]; exact vis_name h.1.2
    · exact vis_toks s h.2 z e
theorem vis_toksAll : ∀ ss : List Say, sOkAll ss = true → ∀ z ∈ toksAll ss, vis z = true
  | [], _ => by simp [toksAll]
  | s :: ss, h => by
    have h : sOk s = true ∧ sOkAll ss = true := by simpa [sOkAll] using h
    intro z hz
    simp only [toksAll, List.mem_append] at hz
    rcases hz with e | e
    · exact vis_toks s h.1 z e
    · exact vis_toksAll ss h.2 z e
end
/-- alike texts, the same saying -/
theorem text_inj {s t : Say} (hs : sOk s = true) (ht : sOk t = true) (h : text s = text t) : s = t := by
  have e1 : TL.spl [32] 0 [] (text s) = toks s := TL.spl_join (toks_ne s) fun z hz => vis_sp (vis_toks s hs z hz)
  have e2 : TL.spl [32] 0 [] (text t) = toks t := TL.spl_join (toks_ne t) fun z hz => vis_sp (vis_toks t ht z hz)
  rw [h, e2] at e1
  exact (toks_inj s t [] [] hs ht (by rw [List.append_nil, List.append_nil]; exact e1.symm)).1
/-- a list of words, as data -/
theorem dpa_visL {K : PySem.W.Frag} {H : Hp} (zs : List (List Nat)) : DpAll K H (strV zs) (zs.map DStr) := dpa_strs zs
theorem lay_words : ∀ zs : List (List Nat), (∀ z ∈ zs, vis z = true) → PyData.canLayAll0 (zs.map DStr) = true
  | [], _ => by simp [PyData.canLayAll0]
  | z :: zs, h => by
    simp only [List.map_cons, PyData.canLayAll0, PyData.canLay0, Bool.and_eq_true]
    exact ⟨vis_ok (h z (List.mem_cons_self ..)), lay_words zs fun x hx => h x (List.mem_cons_of_mem _ hx)⟩
theorem depth_words : ∀ zs : List (List Nat), PyData.depthAll (zs.map DStr) ≤ 1
  | [] => by simp [PyData.depthAll]
  | z :: zs => by
    have := depth_words zs
    simp only [List.map_cons, PyData.depthAll, PyData.depth]
    omega
theorem shaped_words {zs : List (List Nat)} (h : ∀ z ∈ zs, vis z = true) : SeqAt.shaped (.list (zs.map DStr)) = true := by
  unfold SeqAt.shaped
  rw [Bool.and_eq_true, decide_eq_true_eq]
  refine ⟨by simp only [PyData.canLay0]; exact lay_words zs h, ?_⟩
  have := depth_words zs
  simp only [PyData.depth]
  omega
theorem shaped_nilL : SeqAt.shaped (.list []) = true := shaped_words (zs := []) fun _ h => nomatch h
section
variable {P : Program} {w : World} {K : PySem.W.Frag} {mg : Str → Option Value} {base : Heap} {A : Ad}
/-- a method of the class at C -/
structure MDf (K : PySem.W.Frag) (C : Addr) (m qual : Str) (st : Stmt) : Prop where
  ex : ∃ f fd, Cls K C ∧ Meth K C m f ∧ C8.Fun K m qual st f fd ∧ fd.defaults = .none
/-- the class's __init__ -/
structure IDf (K : PySem.W.Frag) (mg : Str → Option Value) (C : Addr) (x qual : Str) (st : Stmt) : Prop where
  ex : ∃ f fd, Mk K C f ∧ mg x = some (.ref C) ∧ C8.Fun K "__init__" qual st f fd ∧ fd.defaults = .none
theorem met_of {m qual : Str} {C : Addr} {st : Stmt} {N ps : List Str} {k : Nat} {sp : Sp} (D : MDf K C m qual st) (S : FnScope N ps (fnScope st))
    (hb : ∀ (kV doc pm : Value) (an : Option Addr) (cdv ct : Value) (us : List Value), us.length = ps.length → bindArgs (PySem.W.fnOf m qual (fnArgs st) (fnBody st) (fnScope st) .none kV doc pm an cdv ct) ⟨us, []⟩ = pure (ps.zip us))
    (len : ∀ vs H Q E, sp vs H Q E → vs.length = ps.length)
    (hbody : ∀ (f : Addr) (cdv : Value) (A : Around) (outer : List Env) (s : Shared) (H : Hp) (vs : List V) (Q : VK) (E : XK), Room k (A.deeper (envOfC qual (fnScope st) s.heap.objs.size f cdv)) → sp vs H Q E →
      ∃ t, PSs (cxOf C8.CX0 P w K mg base N qual (fnScope st) f cdv A outer s H E).nox (fnBody st) t ∧ t { nx := fun _ H' => Q .non H', rt := Q } (start N vs) H) : Met P w K mg base (k + 1) C m sp [] := by
  obtain ⟨f, fd, c, me, F, df⟩ := D.ex
  exact met0 c me F (F.binds df hb) S len (hbody f)
theorem mak_of {x qual : Str} {C : Addr} {st : Stmt} {N ps : List Str} {k : Nat} {sp : Sp} (D : IDf K mg C x qual st) (S : FnScope N ps (fnScope st))
    (hb : ∀ (kV doc pm : Value) (an : Option Addr) (cdv ct : Value) (us : List Value), us.length = ps.length → bindArgs (PySem.W.fnOf "__init__" qual (fnArgs st) (fnBody st) (fnScope st) .none kV doc pm an cdv ct) ⟨us, []⟩ = pure (ps.zip us))
    (len : ∀ vs H Q E, sp vs H Q E → vs.length = ps.length)
    (hbody : ∀ (f : Addr) (cdv : Value) (A : Around) (outer : List Env) (s : Shared) (H : Hp) (vs : List V) (Q : VK) (E : XK), Room k (A.deeper (envOfC qual (fnScope st) s.heap.objs.size f cdv)) → sp vs H Q E →
      ∃ t, PSs (cxOf C8.CX0 P w K mg base N qual (fnScope st) f cdv A outer s H E).nox (fnBody st) t ∧ t { nx := fun _ H' => Q .non H', rt := Q } (start N vs) H) : Mak P w K mg base (k + 1) x C sp [] := by
  obtain ⟨f, fd, M, hm, F, df⟩ := D.ex
  exact mak0 M hm F (F.binds df hb) .nil S len (hbody f)
/-- an instance at x whose words stand at l -/
def WS (C : Addr) (H : Hp) (x l : Addr) (ws : List (List Nat)) : Prop := (∃ dx, H x = some (.ins C dx [(Str.ofString "words_left", .ref l)])) ∧ H l = some (.lst (strV ws.reverse))
theorem WS.ne {C : Addr} {H : Hp} {x l : Addr} {ws : List (List Nat)} (h : WS C H x l ws) : x ≠ l := by
  obtain ⟨⟨dx, h1⟩, h2⟩ := h
  intro e
  rw [e, h2] at h1
  cases h1
theorem WS.next {C : Addr} {H H' : Hp} {x l : Addr} {ws vs : List (List Nat)} (h : WS C H x l ws) (k : Keep l H H') (e : H' l = some (.lst (strV vs.reverse))) : WS C H' x l vs := by
  have n := h.ne
  obtain ⟨⟨dx, h1⟩, h2⟩ := h
  exact ⟨⟨dx, k x _ n h1⟩, e⟩
theorem WS.same {C : Addr} {H H' : Hp} {x l : Addr} {ws : List (List Nat)} (h : WS C H x l ws) (k : Same H H') : WS C H' x l ws := by
  obtain ⟨⟨dx, h1⟩, h2⟩ := h
  exact ⟨⟨dx, k _ _ h1⟩, k _ _ h2⟩
theorem wno (m : Str) (v : V) (h : (m == Str.ofString "words_left") = false) : List.lookup m [(Str.ofString "words_left", v)] = none := by
  rw [List.lookup_cons, h]
  rfl
theorem wyes (v : V) : List.lookup (Str.ofString "words_left") [(Str.ofString "words_left", v)] = some v := by
  rw [List.lookup_cons, beq_self_eq_true]
theorem rev_strV (u : List Nat) (ws : List (List Nat)) : strV (u :: ws).reverse = strV ws.reverse ++ [V.str (S u)] := by
  rw [List.reverse_cons, strV_snoc]
theorem cut_last (xs : List V) (y : V) : cutV (xs ++ [y]) (some (-1)) none = [y] := by
  have h1 : HT.sIx (xs ++ [y]).length 0 (some (-1)) = xs.length := by
    simp only [HT.sIx, List.length_append, List.length_cons, List.length_nil]
    rw [if_pos (by decide)]
    omega
  have h2 : HT.sIx (xs ++ [y]).length (xs ++ [y]).length none = xs.length + 1 := by
    simp [HT.sIx]
  unfold cutV
  rw [h1, h2, List.drop_left]
  rw [show xs.length + 1 - xs.length = 1 by omega]
  rfl
abbrev sInit : Stmt := inClass (top 38) 0
abbrev nInit : List Str := ["self", "text"]
theorem scInit : FnScope nInit ["self", "text"] (fnScope sInit) := fnScope_by (by decide +kernel)
def spInit (C : Addr) : Sp := fun vs H Q _ => ∃ (x dx : Addr) (ts : List (List Nat)), vs = [.ref x, .str (S (jn32 ts))] ∧ H x = some (.ins C dx []) ∧ ts ≠ [] ∧ (∀ z ∈ ts, vis z = true) ∧ (jn32 ts).length ≤ 1000000 ∧
  ∀ l H', Keep x H H' → H l = none → H' x = some (.ins C dx [(Str.ofString "words_left", .ref l)]) → H' l = some (.lst (strV ts.reverse)) → Q .non H'
theorem ok_init {C : Addr} (T : Tx K mg A) (c : Cls K C) (na : NoAttr K C "words_left") (c_must_be : Cal P w K mg base 1 "must_be" spMust []) (D : IDf K mg C "Words" "Words.__init__" sInit) : Mak P w K mg base 2 "Words" C (spInit C) [] := by
  refine mak_of D scInit (fun _ _ _ _ _ _ us hl => match us, hl with | [_, _], _ => rfl) (fun vs H Q E h => ?_) (fun f cdv A outer s H vs Q E hr h => ?_)
  · obtain ⟨_, _, _, rfl, _⟩ := h
    rfl
  obtain ⟨x, dx, ts, rfl, hx, ne, hv, hl, q⟩ := h
  refine ⟨_, (pss_cons
    (ps_expr (pe_c c_must_be hr (by decide) (by rfl) (pa_cons (pe_callB call_isi (by rfl) T.isinstance_ (by decide +kernel) (pa_cons (pv 1) (pa_cons (pe_bltn (v := .ty "str") (u := .type "str") (by rfl) T.str_ (by decide +kernel) rfl) pa_nil))) pa_nil)))
    (pss_one
    (ps_fld (pv 0) (pe_revL (pe_split (pv 1) pe_str)) rfl))), ?_⟩
  have es : (Txt.split (S (jn32 ts)) (Str.ofString " ")).map V.str = strV ts := by
    rw [sp32, split_S (by decide) (by decide)]
    have e1 : TL.spl [32] 0 [] (TL.joinL [32] ts) = ts := TL.spl_join ne fun z hz => vis_sp (hv z hz)
    rw [e1]
    exact strV_S ts
  refine ⟨_, rfl, _, _, _, _, true, rfl, .ty _, .base (.str _), kit_ty (by decide +kernel), rfl, ?_⟩
  refine ⟨_, rfl, ⟨_, rfl⟩, S (jn32 ts), Str.ofString " ", rfl, rfl, by decide +kernel, ?_, fun p np => ?_⟩
  · rw [S_len]
    exact sz_small (by omega)
  rw [es]
  refine ⟨p, strV ts, rfl, SqL.of upd_same, fun l nl => ?_⟩
  have nxp : x ≠ p := ne_of_none hx np
  have hx2 : upd H p (.lst (strV ts)) x = some (.ins C dx []) := same_new np _ _ hx
  have nxl : x ≠ l := ne_of_none hx2 nl
  have nlH : H l = none := Same.free (same_new np) nl
  refine ⟨_, rfl, x, C, dx, [], rfl, same_new nl _ _ hx2, c, na, Nat.zero_lt_succ _, q l _ ?_ nlH upd_same ?_⟩
  · exact (((Keep.of (same_new np)).updN nlH)).upd
  · rw [upd_ne (Ne.symm nxl), upd_same]
    exact congrArg (fun z => some (HO.lst z)) (by show (strV ts).reverse = _; exact List.map_reverse.symm)
/-! ### take -/
abbrev sTake : Stmt := inClass (top 38) 1
abbrev nTake : List Str := ["self"]
theorem scTake : FnScope nTake ["self"] (fnScope sTake) := fnScope_by (by decide +kernel)
def spTake (C : Addr) : Sp := fun vs H Q _ => ∃ (x l : Addr) (u : List Nat) (ws : List (List Nat)), vs = [.ref x] ∧ WS C H x l (u :: ws) ∧ (∀ z ∈ u :: ws, vis z = true) ∧
  ∀ H', Keep l H H' → H' l = some (.lst (strV ws.reverse)) → Q (.str (S u)) H'
theorem ok_take {C : Addr} (c : Cls K C) (na : NoAttr K C "words_left") (c_must_be : Cal P w K mg base 1 "must_be" spMust []) (D : MDf K C "take" "Words.take" sTake) : Met P w K mg base 2 C "take" (spTake C) [] := by
  refine met_of D scTake (fun _ _ _ _ _ _ us hl => match us, hl with | [_], _ => rfl) (fun vs H Q E h => ?_) (fun f cdv A outer s H vs Q E hr h => ?_)
  · obtain ⟨_, _, _, _, rfl, _⟩ := h
    rfl
  obtain ⟨x, l, u, ws, rfl, ⟨⟨dx, hx⟩, hl⟩, hv, q⟩ := h
  refine ⟨_, (pss_cons
    (ps_expr (pe_c c_must_be hr (by decide) (by rfl) (pa_cons (pe_cmpR (op_neD hr.units) (pe_fld (pv 0) rfl) (pe_lst pa_nil) (nomark _)) pa_nil)))
    (pss_one
    (ps_ret (pe_bm0 PySem.F.plainAttrs_list PySem.F.slot_list_pop PySem.F.type_list_pop mt_pop (pe_fld (pv 0) rfl))))), ?_⟩
  refine ⟨_, rfl, x, C, dx, _, _, rfl, hx, c, na, wyes _, Nat.zero_le _, fun b nb => ?_⟩
  have k1 := same_new (o := .lst []) nb
  have hb : upd H b (.lst []) b = some (.lst []) := upd_same
  generalize upd H b (.lst []) = H1 at k1 hb
  refine ⟨.list ((u :: ws).reverse.map DStr), .list [], .lst (SqL.of (k1 _ _ hl)) (dpa_strs _), .lst (SqL.of hb) .nil, shaped_words (fun z hz => hv z (List.mem_reverse.mp hz)), shaped_nilL, ?_, ?_⟩
  · have : PyData.eqv (.list ((u :: ws).reverse.map DStr)) (.list []) = false := by
      rw [List.reverse_cons, List.map_append]
      cases ws.reverse.map DStr <;> simp [PyData.eqv, PyData.eqvAll]
    rw [this]
    rfl
  · refine ⟨_, rfl, x, C, dx, _, _, rfl, k1 _ _ hx, c, na, wyes _, .inl ⟨rfl, _, SqL.of (k1 _ _ hl)⟩, l, _, _, rfl, rfl, k1 _ _ hl, ?_, q _ (Keep.of k1).upd ?_⟩
    · exact congrArg (fun z => z[(strV (u :: ws).reverse).length - 1]?) (rev_strV u ws) |>.trans (by rw [rev_strV, List.length_append]; simp)
    · rw [upd_same, rev_strV, List.dropLast_concat]
/-! ### comes -/
abbrev sComes : Stmt := inClass (top 38) 2
abbrev nComes : List Str := ["self", "word"]
theorem scComes : FnScope nComes ["self", "word"] (fnScope sComes) := fnScope_by (by decide +kernel)
def spComes (C : Addr) : Sp := fun vs H Q _ => ∃ (x l : Addr) (u : List Nat) (ws : List (List Nat)) (z : List Nat), vs = [.ref x, .str (S z)] ∧ WS C H x l (u :: ws) ∧ vis u = true ∧ vis z = true ∧
  ∀ H', Same H H' → Q (.bl (decide (u = z))) H'
theorem ok_comes {C : Addr} (c : Cls K C) (na : NoAttr K C "words_left") (D : MDf K C "comes" "Words.comes" sComes) : Met P w K mg base 1 C "comes" (spComes C) [] := by
  refine met_of D scComes (fun _ _ _ _ _ _ us hl => match us, hl with | [_, _], _ => rfl) (fun vs H Q E h => ?_) (fun f cdv A outer s H vs Q E hr h => ?_)
  · obtain ⟨_, _, _, _, _, rfl, _⟩ := h
    rfl
  obtain ⟨x, l, u, ws, z, rfl, ⟨⟨dx, hx⟩, hl⟩, hu, hz, q⟩ := h
  refine ⟨_, (pss_one
    (ps_ret (pe_cmpR (op_eqD hr.units) (pe_slice sl_list (pe_fld (pv 0) rfl) (po_some (pe_un un_neg pe_int)) po_none) (pe_lst (pa_cons (pv 1) pa_nil)) (nomark _)))), ?_⟩
  refine ⟨_, rfl, x, C, dx, _, _, rfl, hx, c, na, wyes _, 1, rfl, -1, rfl, ?_⟩
  dsimp only [tNoPart]
  refine ⟨l, _, rfl, SqL.of hl, fun a n0 => ?_⟩
  have e1 : cutV (strV (u :: ws).reverse) (some (-1)) none = strV [u] := by
    rw [rev_strV]
    exact cut_last (strV ws.reverse) (V.str (S u))
  rw [e1]
  have k1 := same_new (o := .lst (strV [u])) n0
  have ha : upd H a (.lst (strV [u])) a = some (.lst (strV [u])) := upd_same
  generalize upd H a (.lst (strV [u])) = H1 at k1 ha
  refine ⟨_, rfl, sz_small (show 1 ≤ 16000000 by decide), fun b nb => ?_⟩
  refine ⟨.list ([u].map DStr), .list ([z].map DStr), .lst (SqL.of (same_new nb _ _ ha)) (dpa_strs _), .lst (SqL.of upd_same) (dpa_strs [z]), shaped_words (fun y hy => by rw [List.mem_singleton.mp hy]; exact hu), shaped_words (fun y hy => by rw [List.mem_singleton.mp hy]; exact hz), ?_⟩
  have e2 : PyData.eqv (.list ([u].map DStr)) (.list ([z].map DStr)) = decide (u = z) := by
    simp only [List.map_cons, List.map_nil, PyData.eqv, PyData.eqvAll, Bool.and_true]
    by_cases h : u = z
    · subst h
      rw [decide_eq_true rfl]
      exact beq_self_eq_true _
    · rw [decide_eq_false h]
      exact beq_eq_false_iff_ne.mpr fun e => h (S_inj e)
  rw [e2]
  exact q _ (k1.trans (same_new nb))
end
end Ep

/-! 23. Words: parts. -/
namespace Ep
open PySem PySem.Spec PyProof.Rows L2 SX
open C8 (Cal Met Mak Def cal0 met0 mak0 pe_c pe_mk pe_mt pe_mt0 fnBody fnScope fnArgs fnScope_by pe_gc pss_cut)
section
variable {P : Program} {w : World} {K : PySem.W.Frag} {mg : Str → Option Value} {base : Heap} {A : Ad}
def spRead (K : PySem.W.Frag) (C : Addr) (n : Nat) : Sp := fun vs H Q _ => ∃ (x l : Addr) (s : Say) (rest : List (List Nat)) (deep : Int), vs = [.ref x, .int deep] ∧ WS C H x l (toks s ++ rest) ∧ (∀ z ∈ rest, vis z = true) ∧ sOk s = true ∧ dep s ≤ n ∧
  deep + (dep s : Int) ≤ 40 ∧ ∀ v H', Keep l H H' → H' l = some (.lst (strV rest.reverse)) → Dp K H' v (enc s) → Q v H'
def spWParts (K : PySem.W.Frag) (C : Addr) (n : Nat) : Sp := fun vs H Q _ => ∃ (x l : Addr) (ss : List Say) (rest : List (List Nat)) (deep : Int), vs = [.ref x, .int deep] ∧ WS C H x l (wd "(" :: (toksAll ss ++ wd ")" :: rest)) ∧ (∀ z ∈ rest, vis z = true) ∧
  ss.length ≤ 4 ∧ sOkAll ss = true ∧ depAll ss ≤ n ∧ deep + (depAll ss : Int) ≤ 40 ∧ ∀ v H', Keep l H H' → H' l = some (.lst (strV rest.reverse)) → Dp K H' v (.tuple (ss.map enc)) → Q v H'
abbrev sWParts : Stmt := inClass (top 38) 3
abbrev nWParts : List Str := ["self", "deep", "found"]
theorem scWParts : FnScope nWParts ["self", "deep"] (fnScope sWParts) := fnScope_by (by decide +kernel)
theorem vis_open : vis (wd "(") = true := by decide +kernel
theorem vis_close : vis (wd ")") = true := by decide +kernel
theorem vis_rest {ss : List Say} {rest : List (List Nat)} (h : sOkAll ss = true) (hr : ∀ z ∈ rest, vis z = true) : ∀ z ∈ toksAll ss ++ wd ")" :: rest, vis z = true := fun z hz => by
  rcases List.mem_append.mp hz with hz | hz
  · exact vis_toksAll ss h z hz
  · rcases List.mem_cons.mp hz with e | hz
    · rw [e]
      exact vis_close
    · exact hr z hz
theorem noLAll_map' (ss : List Say) : noLAll (ss.map enc) = true := by
  rw [← encAll_map]
  exact noL_encAll ss
theorem ok_wparts {C : Addr} {n k : Nat} (hk : 4 ≤ k) (T : Tx K mg A) (c_must_be : Cal P w K mg base 1 "must_be" spMust []) (m_take : Met P w K mg base 2 C "take" (spTake C) []) (m_comes : Met P w K mg base 1 C "comes" (spComes C) [])
    (m_saying : Met P w K mg base k C "saying" (spRead K C n) []) (D : MDf K C "parts" "Words.parts" sWParts) : Met P w K mg base (k + 1) C "parts" (spWParts K C n) [] := by
  refine met_of D scWParts (fun _ _ _ _ _ _ us hl => match us, hl with | [_, _], _ => rfl) (fun vs H Q E h => ?_) (fun f cdv A outer s H vs Q E hr h => ?_)
  · obtain ⟨_, _, _, _, _, rfl, _⟩ := h
    rfl
  obtain ⟨x, l, ss, rest, deep, rfl, ws, hv, h4, hok, hd, h40, q⟩ := h
  have hne := ws.ne
  refine ⟨_, (pss_cons
    (ps_expr (pe_c c_must_be hr (by omega) (by rfl) (pa_cons (pe_cmpR op_eq (pe_mt0 m_take hr (by omega) (pv 0)) pe_str (nomark _)) pa_nil)))
    (pss_cons
    (ps_set (i := 2) scWParts.nd rfl (Or.inl rfl) (pe_lst pa_nil))
    (pss_cons
    (ps_while PassesOwn.never (pt_not (pt_val (pe_mt m_comes hr (by omega) (pv 0) (pa_cons pe_str pa_nil)))) (pss_one
    (ps_expr (pe_bm PySem.F.plainAttrs_list PySem.F.slot_list_append PySem.F.type_list_append mt_append (pv 2) (pa_cons (pe_mt m_saying hr (Nat.le_refl _) (pv 0) (pa_cons (pv 1) pa_nil)) pa_nil)))))
    (pss_cons
    (ps_expr (pe_mt0 m_take hr (by omega) (pv 0)))
    (pss_one
    (ps_ret (pe_callTy (call_tuple_ofK (K := K)) (by rfl) T.tuple_ (by decide +kernel) (pa_cons (pv 2) pa_nil)))))))), ?_⟩
  obtain ⟨dx, hx⟩ := ws.1
  refine ⟨_, rfl, x, dx, _, rfl, hx, wno _ _ (by decide +kernel), x, l, _, _, rfl, ws, ?_, fun H1 k1 l1 => ?_⟩
  · intro z hz
    rcases List.mem_cons.mp hz with e | hz
    · rw [e]
      exact vis_open
    · exact vis_rest hok hv z hz
  have w1 := ws.next k1 l1
  refine ⟨rfl, by decide +kernel, Nat.zero_le _, fun F nF => ?_⟩
  have nFl : F ≠ l := Ne.symm (ne_of_none l1 nF)
  have nFH : H F = none := k1.free nF nFl
  have k2 : Keep l H (upd H1 F (.lst [])) := k1.updN nFH
  have w2 := w1.same (same_new (o := .lst []) nF)
  have hF : upd H1 F (.lst []) F = some (.lst []) := upd_same
  generalize upd H1 F (.lst []) = H2 at k2 w2 hF
  refine ⟨fun m σ' H' => ∃ (done todo : List Say) (vs : List V), σ' = [some (.ref x), some (.int deep), some (.ref F)] ∧ ss = done ++ todo ∧ todo.length = m ∧ Keep l H H' ∧ WS C H' x l (toksAll todo ++ wd ")" :: rest) ∧ H' F = some (.lst vs) ∧ DpAll K H' vs (done.map enc),
    ⟨_, [], ss, [], rfl, rfl, rfl, k2, w2, hF, .nil⟩, ?_⟩
  rintro m σ' H3 ⟨done, todo, vs, rfl, es, em, k3, w3, hF3, da⟩
  have hokt : sOkAll todo = true := sOkAll_iff.mpr fun s hs => sOkAll_iff.mp hok s (by rw [es]; exact List.mem_append_right _ hs)
  obtain ⟨dx3, hx3⟩ := w3.1
  cases todo with
  | nil =>
    refine ⟨_, rfl, x, dx3, _, rfl, hx3, wno _ _ (by decide +kernel), x, l, _, _, _, rfl, w3, vis_close, vis_close, fun H4 a4 => ?_⟩
    refine ⟨_, rfl, iteF ?_⟩
    refine ⟨_, rfl, x, dx3, _, rfl, a4 _ _ hx3, wno _ _ (by decide +kernel), x, l, _, _, rfl, w3.same a4, ?_, fun H5 k5 l5 => ?_⟩
    · intro z hz
      rcases List.mem_cons.mp hz with e | hz
      · rw [e]
        exact vis_close
      · exact hv z hz
    have hF5 := k5 F _ nFl (a4 _ _ hF3)
    have t5 : Tups H3 H5 := (Same.tups a4).trans (k5.tups (a4 _ _ w3.2))
    have K5 : Keep l H H5 := (k3.trans (Keep.of a4)).trans k5
    refine ⟨_, rfl, F, vs, rfl, .inl ⟨SqL.of hF5, fun t nt => ?_⟩⟩
    have ntl : t ≠ l := Ne.symm (ne_of_none l5 nt)
    rw [List.append_nil] at es
    refine q _ _ (K5.updN (K5.free nt ntl)) (same_new nt _ _ l5) (.tup (SqT.of upd_same) ?_)
    rw [es]
    exact DpAll.tups (t5.trans (Tups.new nt)) _ (noLAll_map' done) da
  | cons s todo =>
    have e3 : toksAll (s :: todo) ++ wd ")" :: rest = toks s ++ (toksAll todo ++ wd ")" :: rest) := by
      simp [toksAll]
    rw [e3] at w3
    obtain ⟨r, er⟩ := toks_head s
    have w3' : WS C H3 x l (wI s.i :: (r ++ (toksAll todo ++ wd ")" :: rest))) := by
      have := w3
      rw [er, List.cons_append] at this
      exact this
    have hst : sOk s = true ∧ sOkAll todo = true := by simpa [sOkAll] using hokt
    have hms : s ∈ ss := by
      rw [es]
      exact List.mem_append_right _ (List.mem_cons_self ..)
    have hds : dep s ≤ depAll ss := depAll_le.mp (Nat.le_refl _) s hms
    have hlen : done.length + (todo.length + 1) ≤ 4 := by
      rw [es, List.length_append, List.length_cons] at h4
      exact h4
    refine ⟨_, rfl, x, dx3, _, rfl, hx3, wno _ _ (by decide +kernel), x, l, _, _, _, rfl, w3', vis_I _, vis_close, fun H4 a4 => ?_⟩
    refine ⟨_, rfl, if_t (by rw [decide_eq_false fun e => close_no _ e.symm]; rfl) ?_⟩
    refine ⟨fun σ' H' => ∃ (done' todo' : List Say) (vs : List V), σ' = [some (.ref x), some (.int deep), some (.ref F)] ∧ ss = done' ++ todo' ∧ todo'.length = todo.length ∧ Keep l H H' ∧ WS C H' x l (toksAll todo' ++ wd ")" :: rest) ∧ H' F = some (.lst vs) ∧ DpAll K H' vs (done'.map enc),
      fun σ' H' hN => ⟨todo.length, by rw [← em, List.length_cons]; exact Nat.lt_succ_self _, hN⟩, ?_⟩
    refine ⟨_, rfl, .inl ⟨rfl, _, SqL.of (a4 _ _ hF3)⟩, _, rfl, x, dx3, _, rfl, a4 _ _ hx3, wno _ _ (by decide +kernel), _, rfl, x, l, s, _, deep, rfl, w3.same a4, vis_rest hst.2 hv, hst.1, by omega, by omega, fun v H5 k5 l5 dv => ?_⟩
    have hF5 := k5 F _ nFl (a4 _ _ hF3)
    have t5 : Tups H3 H5 := (Same.tups a4).trans (k5.tups (a4 _ _ w3.2))
    have K5 : Keep l H H5 := (k3.trans (Keep.of a4)).trans k5
    have lv : vs.length = done.length := by rw [DpAll.length da, List.length_map]
    refine ⟨F, _, _, rfl, rfl, hF5, sz_lt (by omega), done ++ [s], todo, vs ++ [v], rfl, by rw [es, List.append_assoc]; rfl, rfl, K5.updN nFH, ?_, upd_same, ?_⟩
    · have w5 := (w3.same a4).next k5 l5
      obtain ⟨⟨d, h1⟩, h2⟩ := w5
      have nFx : F ≠ x := by
        intro e
        rw [e, h1] at hF5
        cases hF5
      exact ⟨⟨d, by rw [upd_ne (Ne.symm nFx)]; exact h1⟩, by rw [upd_ne (Ne.symm nFl)]; exact h2⟩
    · rw [List.map_append]
      exact DpAll.append (DpAll.tups (t5.trans (Tups.updL hF5)) _ (noLAll_map' done) da) (.cons (Dp.tups (Tups.updL hF5) _ (noL_enc s) dv) .nil)
end
end Ep

/-! 24. Words: saying. -/
namespace Ep
open PySem PySem.Spec PyProof.Rows L2 SX
open C8 (Cal Met Mak Def cal0 met0 mak0 pe_c pe_mk pe_mt pe_mt0 fnBody fnScope fnArgs fnScope_by pe_gc pss_cut)
theorem vis_tail {s : Say} {rest ts : List (List Nat)} {u : List Nat} (hs : sOk s = true) (e : toks s = u :: ts) (hr : ∀ z ∈ rest, vis z = true) : ∀ z ∈ u :: (ts ++ rest), vis z = true := fun z hz => by
  rw [← List.cons_append, ← e] at hz
  rcases List.mem_append.mp hz with hz | hz
  · exact vis_toks s hs z hz
  · exact hr z hz
section
variable {P : Program} {w : World} {K : PySem.W.Frag} {mg : Str → Option Value} {base : Heap} {A : Ad}
abbrev sWSaying : Stmt := inClass (top 38) 4
abbrev nWSaying : List Str := ["self", "deep", "word", "first", "names", "k"]
theorem scWSaying : FnScope nWSaying ["self", "deep"] (fnScope sWSaying) := fnScope_by (by decide +kernel)
theorem met_none {m qual : Str} {C : Addr} {st : Stmt} {N ps : List Str} {k : Nat} {sp : Sp} (D : MDf K C m qual st) (S : FnScope N ps (fnScope st))
    (hb : ∀ (kV doc pm : Value) (an : Option Addr) (cdv ct : Value) (us : List Value), us.length = ps.length → bindArgs (PySem.W.fnOf m qual (fnArgs st) (fnBody st) (fnScope st) .none kV doc pm an cdv ct) ⟨us, []⟩ = pure (ps.zip us))
    (no : ∀ vs H Q E, ¬ sp vs H Q E) : Met P w K mg base (k + 1) C m sp [] :=
  met_of D S hb (fun vs H Q E h => absurd h (no vs H Q E)) fun _ _ _ _ _ H vs Q E _ h => absurd h (no vs H Q E)
theorem ok_wsaying {C : Addr} (T : Tx K mg A) (c_must_be : Cal P w K mg base 1 "must_be" spMust []) (c_sum_from : Cal P w K mg base 3 "sum_from" (spSumFrom K) []) (m_take : Met P w K mg base 2 C "take" (spTake C) []) (m_comes : Met P w K mg base 1 C "comes" (spComes C) [])
    (DP : MDf K C "parts" "Words.parts" sWParts) (D : MDf K C "saying" "Words.saying" sWSaying) : ∀ n, Met P w K mg base (4 + 2 * n) C "saying" (spRead K C n) []
  | 0 => met_none (k := 3) D scWSaying (fun _ _ _ _ _ _ us hl => match us, hl with | [_, _], _ => rfl) (fun vs H Q E h => by
    obtain ⟨x, l, s, _, _, _, _, _, _, h, _⟩ := h
    have := dep_pos s
    omega)
  | n + 1 => by
    have m_saying := ok_wsaying T c_must_be c_sum_from m_take m_comes DP D n
    have m_parts := ok_wparts (n := n) (by omega) T c_must_be m_take m_comes m_saying DP
    refine met_of (k := 4 + 2 * n + 1) D scWSaying (fun _ _ _ _ _ _ us hl => match us, hl with | [_, _], _ => rfl) (fun vs H Q E h => ?_) (fun f cdv A outer s0 H vs Q E hr h => ?_)
    · obtain ⟨_, _, _, _, _, rfl, _⟩ := h
      rfl
    obtain ⟨x, l, s, rest, deep, rfl, ws, hv, hok, hd, h40, q⟩ := h
    refine ⟨_, (pss_cons
    (ps_expr (pe_c c_must_be hr (by omega) (by rfl) (pa_cons (pe_cmpR op_lt (pv 1) (pe_gc (by rfl) T.vDEEPEST) (nomark _)) pa_nil)))
    (pss_cons
    (ps_set (i := 2) scWSaying.nd rfl (Or.inl rfl) (pe_mt0 m_take hr (by omega) (pv 0)))
    (pss_cons
    (ps_if (pt_cmpR op_in_seq (pv 2) (pe_gc (by rfl) T.vCOMPARING) (by rfl)) (pss_cons
    (ps_set (i := 3) scWSaying.nd rfl (Or.inl rfl) (pe_c c_sum_from hr (by omega) (by rfl) (pa_cons (pe_mt0 m_take hr (by omega) (pv 0)) pa_nil)))
    (pss_one
    (ps_ret (pe_tup (pa_cons (pv 2) (pa_cons (pv 3) (pa_cons (pe_c c_sum_from hr (by omega) (by rfl) (pa_cons (pe_mt0 m_take hr (by omega) (pv 0)) pa_nil)) pa_nil))))))) pss_nil)
    (pss_cons
    (ps_if (PW.pt (pw_or (pt_cmpR op_in_seq (pv 2) (pe_gc (by rfl) T.vPLACING) (by rfl)) (pw_or1 (pt_cmpR op_eq (pv 2) pe_str (nomark _))))) (pss_cons
    (ps_set (i := 3) scWSaying.nd rfl (Or.inl rfl) (pe_mt0 m_take hr (by omega) (pv 0)))
    (pss_one
    (ps_ret (pe_tup (pa_cons (pv 2) (pa_cons (pv 3) (pa_cons (pe_mt0 m_take hr (by omega) (pv 0)) pa_nil))))))) pss_nil)
    (pss_cons
    (ps_if (pt_cmpR op_in_seq (pv 2) (pe_gc (by rfl) T.vJOINING) (by rfl)) (pss_one
    (ps_ret (pe_tup (pa_cons (pv 2) (pa_cons (pe_mt m_parts hr (by omega) (pv 0) (pa_cons (pe_op op_add (pv 1) pe_int) pa_nil)) pa_nil))))) pss_nil)
    (pss_cons
    (ps_if (pt_cmpR op_eq (pv 2) pe_str (nomark _)) (pss_one
    (ps_ret (pe_tup (pa_cons (pv 2) (pa_cons (pe_mt m_saying hr (by omega) (pv 0) (pa_cons (pe_op op_add (pv 1) pe_int) pa_nil)) pa_nil))))) pss_nil)
    (pss_cons
    (ps_if (pt_cmpR op_eq (pv 2) pe_str (nomark _)) (pss_cons
    (ps_set (i := 3) scWSaying.nd rfl (Or.inl rfl) (pe_mt m_saying hr (by omega) (pv 0) (pa_cons (pe_op op_add (pv 1) pe_int) pa_nil)))
    (pss_one
    (ps_ret (pe_tup (pa_cons (pv 2) (pa_cons (pv 3) (pa_cons (pe_mt m_saying hr (by omega) (pv 0) (pa_cons (pe_op op_add (pv 1) pe_int) pa_nil)) pa_nil))))))) pss_nil)
    (pss_cons
    (ps_expr (pe_c c_must_be hr (by omega) (by rfl) (pa_cons (pe_or (pe_cmpR op_eq (pv 2) pe_str (nomark _)) (pe_one (pe_cmpR op_eq (pv 2) pe_str (nomark _)))) pa_nil)))
    (pss_cons
    (ps_set (i := 4) scWSaying.nd rfl (Or.inl rfl) (pe_callTy (call_tuple_ofK (K := K)) (by rfl) T.tuple_ (by decide +kernel) (pa_cons (pe_lc (own := [("k", 5)]) (g := gName 5) (tt := tYes) rfl scWSaying.nd (pi_range1 rfl T.range_ (pa_cons (pe_op op_add pe_int (pe_callTy call_int1 (by rfl) T.int_ (by decide +kernel) (pa_cons (pe_cmpR op_eq (pv 2) pe_str (nomark _)) pa_nil))) pa_nil)) (blkOk_by (own := [("k", 5)]) (N := nWSaying) (sc := fnScope sWSaying) (by decide +kernel)) (fun _ _ _ _ _ => pg_name (i := 5) scWSaying.nd rfl (Or.inl rfl)) (fun _ _ _ _ _ => pts_nil) (fun _ _ _ _ _ => (pe_mt0 m_take hr (by omega) (pv 0)))) pa_nil)))
    (pss_one
    (ps_ret (pe_op op_catA (pe_op op_catA (pe_tup (pa_cons (pv 2) pa_nil)) (pv 4)) (pe_tup (pa_cons (pe_mt m_saying hr (by omega) (pv 0) (pa_cons (pe_op op_add (pv 1) pe_int) pa_nil)) pa_nil)))))))))))))), ?_⟩
    obtain ⟨dx, hx⟩ := ws.1
    have hne := ws.ne
    have hdp := dep_pos s
    obtain ⟨ts, et⟩ : ∃ ts, toks s = wI s.i :: ts := toks_head s
    have ws' : WS C H x l (wI s.i :: (ts ++ rest)) := by
      have := ws
      rw [et, List.cons_append] at this
      exact this
    refine ⟨_, rfl, _, _, rfl, rfl, congrArg (fun z => [V.bl z]) (decide_eq_true (by omega)), ?_⟩
    refine ⟨_, rfl, x, dx, _, rfl, hx, wno _ _ (by decide +kernel), x, l, _, _, rfl, ws', vis_tail hok et hv, fun H1 k1 l1 => ?_⟩
    have w1 := ws'.next k1 l1
    have hv1 : ∀ z ∈ ts ++ rest, vis z = true := fun z hz => vis_tail hok et hv z (List.mem_cons_of_mem _ hz)
    clear hne ws ws' hx
    obtain ⟨dx1, hx1⟩ := w1.1
    have tp1 : ∀ {v : V} {d : PyData}, True := trivial
    cases s with
    | cmp k a b =>
      have e0 : wI (Say.cmp k a b).i = wd k.s := (cw_w k).symm
      have e1 : ts = [smT a, smT b] := by
        have := et
        rw [toks] at this
        exact (List.cons.inj this).2.symm
      subst e1
      have hok2 : mOk a = true ∧ mOk b = true := by simpa [sOk] using hok
      rw [e0]
      refine ⟨_, rfl, _, _, rfl, .inr (T.tCOMPARING _), rfl, by decide +kernel, _, rfl, if_t (cwC k) ?_⟩
      refine ⟨_, rfl, x, dx1, _, rfl, hx1, wno _ _ (by decide +kernel), x, l, _, _, rfl, w1, hv1, fun H2 k2 l2 => ⟨a, rfl, hok2.1, fun v3 H3 a3 d3 => ?_⟩⟩
      have w3 := (w1.next k2 l2).same a3
      obtain ⟨dx3, hx3⟩ := w3.1
      refine ⟨_, rfl, _, rfl, _, rfl, x, dx3, _, rfl, hx3, wno _ _ (by decide +kernel), x, l, _, _, rfl, w3, fun z hz => hv1 z (List.mem_cons_of_mem _ hz), fun H4 k4 l4 => ⟨b, rfl, hok2.2, fun v5 H5 a5 d5 => ?_⟩⟩
      refine ⟨sz_small (show 3 ≤ 16000000 by decide), fun t nt => ?_⟩
      have K5 : Keep l H H5 := ((k1.trans (k2.trans (Keep.of a3))).trans k4).trans (Keep.of a5)
      have l5 := a5 _ _ l4
      have ntl : t ≠ l := Ne.symm (ne_of_none l5 nt)
      refine q _ _ (K5.updN (K5.free nt ntl)) (same_new nt _ _ l5) ?_
      rw [enc]
      exact .tup (SqT.of upd_same) (.cons (.str _) (.cons (Dp.tups (((k4.tups w3.2).trans (Same.tups a5)).trans (Tups.new nt)) _ (noL_encM a) d3) (.cons (Dp.tups (Tups.new nt) _ (noL_encM b) d5) .nil)))
    | pl k a b =>
      have e0 : wI (Say.pl k a b).i = wd k.s := (pw_w k).symm
      have e1 : ts = [a, b] := by
        have := et
        rw [toks] at this
        exact (List.cons.inj this).2.symm
      subst e1
      rw [e0]
      refine ⟨_, rfl, _, _, rfl, .inr (T.tCOMPARING _), rfl, by decide +kernel, _, rfl, if_f (by cases k <;> decide +kernel) ?_⟩
      dsimp only [tNext, gName, tSeq, tIfS]
      refine or2 (a := inV (.str (S (wd k.s))) (zPlacing.map V.str)) (b := decide (V.str (S (wd k.s)) = V.str (Str.ofString "nexts"))) (fun R' q' => ⟨_, rfl, _, _, rfl, .inr (T.tPLACING _), rfl, by decide +kernel, _, rfl, q'⟩) (fun R' q' => ⟨_, rfl, rfl, _, rfl, q'⟩) ?_
      refine if_t (by cases k <;> decide +kernel) ?_
      refine ⟨_, rfl, x, dx1, _, rfl, hx1, wno _ _ (by decide +kernel), x, l, _, _, rfl, w1, hv1, fun H2 k2 l2 => ?_⟩
      have w3 := w1.next k2 l2
      obtain ⟨dx3, hx3⟩ := w3.1
      refine ⟨_, rfl, _, rfl, _, rfl, x, dx3, _, rfl, hx3, wno _ _ (by decide +kernel), x, l, _, _, rfl, w3, fun z hz => hv1 z (List.mem_cons_of_mem _ hz), fun H4 k4 l4 => ?_⟩
      refine ⟨sz_small (show 3 ≤ 16000000 by decide), fun t nt => ?_⟩
      have K5 : Keep l H H4 := (k1.trans k2).trans k4
      have ntl : t ≠ l := Ne.symm (ne_of_none l4 nt)
      refine q _ _ (K5.updN (K5.free nt ntl)) (same_new nt _ _ l4) ?_
      rw [enc]
      exact .tup (SqT.of upd_same) (.cons (.str _) (.cons (.str _) (.cons (.str _) .nil)))
    | no s =>
      have e0 : wI (Say.no s).i = wd "not" := wd_not.symm
      have e1 : ts = toks s := by
        have := et
        rw [toks] at this
        exact (List.cons.inj this).2.symm
      subst e1
      have hok2 : sOk s = true := by simpa [sOk] using hok
      simp only [dep] at hd h40
      rw [e0]
      refine ⟨_, rfl, _, _, rfl, .inr (T.tCOMPARING _), rfl, by decide +kernel, _, rfl, if_f (by decide +kernel) ?_⟩
      dsimp only [tNext, gName, tSeq, tIfS]
      refine or2 (a := inV (.str (S (wd "not"))) (zPlacing.map V.str)) (b := decide (V.str (S (wd "not")) = V.str (Str.ofString "nexts"))) (fun R' q' => ⟨_, rfl, _, _, rfl, .inr (T.tPLACING _), rfl, by decide +kernel, _, rfl, q'⟩) (fun R' q' => ⟨_, rfl, rfl, _, rfl, q'⟩) ?_
      refine if_f (by decide +kernel) ?_
      refine ⟨_, rfl, _, _, rfl, .inr (T.tJOINING _), rfl, by decide +kernel, _, rfl, if_f (by decide +kernel) ?_⟩
      refine ⟨_, rfl, rfl, _, rfl, if_t (by decide +kernel) ?_⟩
      refine ⟨_, rfl, _, rfl, x, dx1, _, rfl, hx1, wno _ _ (by decide +kernel), _, rfl, _, _, rfl, rfl, x, l, s, rest, _, rfl, w1, hv, hok2, by omega, by omega, fun v H2 k2 l2 d2 => ?_⟩
      refine ⟨sz_small (show 2 ≤ 16000000 by decide), fun t nt => ?_⟩
      have K5 : Keep l H H2 := k1.trans k2
      have ntl : t ≠ l := Ne.symm (ne_of_none l2 nt)
      refine q _ _ (K5.updN (K5.free nt ntl)) (same_new nt _ _ l2) ?_
      rw [enc]
      exact .tup (SqT.of upd_same) (.cons (.str _) (.cons (Dp.tups (Tups.new nt) _ (noL_enc s) d2) .nil))
    | jn k ss =>
      have e0 : wI (Say.jn k ss).i = wd (jw k) := (jw_w k).symm
      have e1 : ts = wd "(" :: (toksAll ss ++ [wd ")"]) := by
        have := et
        rw [toks] at this
        exact (List.cons.inj this).2.symm
      subst e1
      have hok2 : ss.length ≤ 4 ∧ sOkAll ss = true := by simpa [sOk] using hok
      simp only [dep] at hd h40
      have w1' : WS C H1 x l (wd "(" :: (toksAll ss ++ wd ")" :: rest)) := by
        have e : (wd "(" :: (toksAll ss ++ [wd ")"])) ++ rest = wd "(" :: (toksAll ss ++ wd ")" :: rest) := by simp
        rw [← e]
        exact w1
      rw [e0]
      refine ⟨_, rfl, _, _, rfl, .inr (T.tCOMPARING _), rfl, by decide +kernel, _, rfl, if_f (by cases k <;> decide +kernel) ?_⟩
      dsimp only [tNext, gName, tSeq, tIfS]
      refine or2 (a := inV (.str (S (wd (jw k)))) (zPlacing.map V.str)) (b := decide (V.str (S (wd (jw k))) = V.str (Str.ofString "nexts"))) (fun R' q' => ⟨_, rfl, _, _, rfl, .inr (T.tPLACING _), rfl, by decide +kernel, _, rfl, q'⟩) (fun R' q' => ⟨_, rfl, rfl, _, rfl, q'⟩) ?_
      refine if_f (by cases k <;> decide +kernel) ?_
      refine ⟨_, rfl, _, _, rfl, .inr (T.tJOINING _), rfl, by decide +kernel, _, rfl, if_t (by cases k <;> decide +kernel) ?_⟩
      refine ⟨_, rfl, _, rfl, x, dx1, _, rfl, hx1, wno _ _ (by decide +kernel), _, rfl, _, _, rfl, rfl, x, l, ss, rest, _, rfl, w1', hv, hok2.1, hok2.2, by omega, by omega, fun v H2 k2 l2 d2 => ?_⟩
      refine ⟨sz_small (show 2 ≤ 16000000 by decide), fun t nt => ?_⟩
      have K5 : Keep l H H2 := k1.trans k2
      have ntl : t ≠ l := Ne.symm (ne_of_none l2 nt)
      refine q _ _ (K5.updN (K5.free nt ntl)) (same_new nt _ _ l2) ?_
      rw [enc, encAll_map]
      exact .tup (SqT.of upd_same) (.cons (.str _) (.cons (Dp.tups (Tups.new nt) _ (by simp only [noL]; exact noLAll_map' ss) d2) .nil))
    | iff s t =>
      have e0 : wI (Say.iff s t).i = wd "if" := wd_if.symm
      have e1 : ts = toks s ++ toks t := by
        have := et
        rw [toks] at this
        exact (List.cons.inj this).2.symm
      subst e1
      have hok2 : sOk s = true ∧ sOk t = true := by simpa [sOk] using hok
      simp only [dep] at hd h40
      rw [List.append_assoc] at w1 hv1
      rw [e0]
      refine ⟨_, rfl, _, _, rfl, .inr (T.tCOMPARING _), rfl, by decide +kernel, _, rfl, if_f (by decide +kernel) ?_⟩
      dsimp only [tNext, gName, tSeq, tIfS]
      refine or2 (a := inV (.str (S (wd "if"))) (zPlacing.map V.str)) (b := decide (V.str (S (wd "if")) = V.str (Str.ofString "nexts"))) (fun R' q' => ⟨_, rfl, _, _, rfl, .inr (T.tPLACING _), rfl, by decide +kernel, _, rfl, q'⟩) (fun R' q' => ⟨_, rfl, rfl, _, rfl, q'⟩) ?_
      refine if_f (by decide +kernel) ?_
      refine ⟨_, rfl, _, _, rfl, .inr (T.tJOINING _), rfl, by decide +kernel, _, rfl, if_f (by decide +kernel) ?_⟩
      refine ⟨_, rfl, rfl, _, rfl, if_f (by decide +kernel) ?_⟩
      refine ⟨_, rfl, rfl, _, rfl, if_t (by decide +kernel) ?_⟩
      have hvt : ∀ z ∈ toks t ++ rest, vis z = true := fun z hz => hv1 z (List.mem_append_right _ hz)
      refine ⟨_, rfl, x, dx1, _, rfl, hx1, wno _ _ (by decide +kernel), _, rfl, _, _, rfl, rfl, x, l, s, toks t ++ rest, _, rfl, w1, hvt, hok2.1, by omega, by omega, fun v H2 k2 l2 d2 => ?_⟩
      have w2 := w1.next k2 l2
      obtain ⟨dx2, hx2⟩ := w2.1
      refine ⟨_, rfl, _, rfl, _, rfl, x, dx2, _, rfl, hx2, wno _ _ (by decide +kernel), _, rfl, _, _, rfl, rfl, x, l, t, rest, _, rfl, w2, hv, hok2.2, by omega, by omega, fun v3 H3 k3 l3 d3 => ?_⟩
      refine ⟨sz_small (show 3 ≤ 16000000 by decide), fun t nt => ?_⟩
      have K5 : Keep l H H3 := (k1.trans k2).trans k3
      have ntl : t ≠ l := Ne.symm (ne_of_none l3 nt)
      refine q _ _ (K5.updN (K5.free nt ntl)) (same_new nt _ _ l3) ?_
      rw [enc]
      exact .tup (SqT.of upd_same) (.cons (.str _) (.cons (Dp.tups ((k3.tups w2.2).trans (Tups.new nt)) _ (noL_enc _) d2) (.cons (Dp.tups (Tups.new nt) _ (noL_enc _) d3) .nil)))
    | ea y s =>
      have e0 : wI (Say.ea y s).i = wd "each" := wd_each.symm
      have e1 : ts = [y] ++ toks s := by
        have := et
        rw [toks] at this
        exact (List.cons.inj this).2.symm
      subst e1
      have hok2 : sOk s = true := by
        rw [sOk, Bool.and_eq_true] at hok
        exact hok.2
      simp only [dep] at hd h40
      rw [List.append_assoc] at w1 hv1
      have hvs : ∀ z ∈ toks s ++ rest, vis z = true := fun z hz => hv1 z (List.mem_append_right _ hz)
      rw [e0]
      refine ⟨_, rfl, _, _, rfl, .inr (T.tCOMPARING _), rfl, by decide +kernel, _, rfl, if_f (by decide +kernel) ?_⟩
      dsimp only [tNext, gName, tSeq, tIfS]
      refine or2 (a := inV (.str (S (wd "each"))) (zPlacing.map V.str)) (b := decide (V.str (S (wd "each")) = V.str (Str.ofString "nexts"))) (fun R' q' => ⟨_, rfl, _, _, rfl, .inr (T.tPLACING _), rfl, by decide +kernel, _, rfl, q'⟩) (fun R' q' => ⟨_, rfl, rfl, _, rfl, q'⟩) ?_
      refine if_f (by decide +kernel) ?_
      refine ⟨_, rfl, _, _, rfl, .inr (T.tJOINING _), rfl, by decide +kernel, _, rfl, if_f (by decide +kernel) ?_⟩
      refine ⟨_, rfl, rfl, _, rfl, if_f (by decide +kernel) ?_⟩
      refine ⟨_, rfl, rfl, _, rfl, if_f (by decide +kernel) ?_⟩
      refine ⟨_, rfl, rfl, _, rfl, if_t (by decide +kernel) ⟨rfl, ?_⟩⟩
      refine ⟨_, rfl, rfl, .inr ⟨_, rfl, _, _, rfl, rfl, 1, congrArg (fun z => [V.int z]) (by rw [if_neg (by decide +kernel)]; rfl), by omega, by omega, fun L nL => ?_⟩⟩
      have nLl : L ≠ l := Ne.symm (ne_of_none w1.2 nL)
      have nLH : H L = none := k1.free nL nLl
      refine lc_range (lo := 0) (n := ((1 : Int)).toNat) (fun i H' => WS C H' x l (([y] : List (List Nat)).drop i ++ (toks s ++ rest)) ∧ Keep l H H' ∧ H' L = some (.lst (strV (([y] : List (List Nat)).take i)))) ⟨w1.same (same_new nL), k1.updN nLH, upd_same⟩ ?_ ?_
      · rintro i H2 hi ⟨w2, k2, hL2⟩
        have hi' : i < ([y] : List (List Nat)).length := hi
        obtain ⟨dx2, hx2⟩ := w2.1
        have hv2 : ∀ u ∈ ([y] : List (List Nat)).drop i ++ (toks s ++ rest), vis u = true := fun u hu => hv1 u (by
          rcases List.mem_append.mp hu with hu | hu
          · exact List.mem_append_left _ (List.mem_of_mem_drop hu)
          · exact List.mem_append_right _ hu)
        rw [List.drop_eq_getElem_cons hi'] at w2 hv2
        have nLx : L ≠ x := by
          intro e
          rw [e, hx2] at hL2
          cases hL2
        refine ⟨rfl, _, rfl, x, dx2, _, rfl, hx2, wno _ _ (by decide +kernel), x, l, _, _, rfl, w2, hv2, fun H3 k3 l3 => ?_⟩
        · have hL3 := k3 L _ nLl hL2
          have w3 := w2.next k3 l3
          obtain ⟨⟨d, h1⟩, h2⟩ := w3
          refine ⟨_, hL3, sz_lt (by rw [strV_len, List.length_take]; omega), ⟨⟨d, by rw [upd_ne (Ne.symm nLx)]; exact h1⟩, by rw [upd_ne (Ne.symm nLl)]; exact h2⟩, (k2.trans k3).updN nLH, ?_⟩
          rw [upd_same, strV_snoc, List.take_add_one, List.getElem?_eq_getElem hi']
          rfl
      · rintro H2 ⟨w2, k2, hL2⟩
        have w2 : WS C H2 x l (toks s ++ rest) := w2
        have hL2 : H2 L = some (.lst (strV [y])) := hL2
        refine ⟨L, _, rfl, .inl ⟨SqL.of hL2, fun t1 n1 => ?_⟩⟩
        have t1l : t1 ≠ l := Ne.symm (ne_of_none w2.2 n1)
        have k3 := k2.updN (o := .tup (strV [y])) (k2.free n1 t1l)
        have w3 := w2.same (same_new (o := .tup (strV [y])) n1)
        have h3 : SqT K (upd H2 t1 (.tup (strV [y]))) t1 (strV [y]) := SqT.of upd_same
        generalize upd H2 t1 (.tup (strV [y])) = H3 at k3 w3 h3
        refine ⟨_, rfl, sz_small (show 1 ≤ 16000000 by decide), fun t2 n2 => ?_⟩
        have t2l : t2 ≠ l := Ne.symm (ne_of_none w3.2 n2)
        have a3 := same_new (o := .tup (strV [wd "each"])) n2
        have h4 : SqT K (upd H3 t2 (.tup (strV [wd "each"]))) t2 (strV [wd "each"]) := SqT.of upd_same
        have k4 := k3.updN (o := .tup (strV [wd "each"])) (k3.free n2 t2l)
        refine ⟨_, rfl, cat_use h4 (Same.sqT a3 h3) (by rw [strV_len, strV_len]; show 1 + 1 ≤ _; omega) fun t5 H5 a5 h5 => ?_⟩
        have w5 := (w3.same a3).same a5
        have k5 := k4.trans (Keep.of a5)
        rw [strV_app] at h5
        obtain ⟨dx5, hx5⟩ := w5.1
        refine ⟨_, rfl, x, dx5, _, rfl, hx5, wno _ _ (by decide +kernel), _, rfl, _, _, rfl, rfl, x, l, s, rest, _, rfl, w5, hv, hok2, by omega, by omega, fun v6 H6 k6 l6 d6 => ?_⟩
        refine ⟨sz_small (show 1 ≤ 16000000 by decide), fun t7 n7 => ?_⟩
        have t7l : t7 ≠ l := Ne.symm (ne_of_none l6 n7)
        have k7 := (k5.trans k6).updN (o := .tup [v6]) ((k5.trans k6).free n7 t7l)
        have a7 := same_new (o := .tup [v6]) n7
        refine cat_use (Same.sqT a7 ((k6.tups w5.2).sq h5)) (SqT.of upd_same) (by rw [strV_len]; show 1 + 1 + 1 ≤ _; omega) fun t8 H8 a8 h8 => ?_
        refine q _ _ (k7.trans (Keep.of a8)) (a8 _ _ (a7 _ _ l6)) ?_
        rw [enc]
        exact .tup h8 (DpAll.append (dpa_strs ([wd "each"] ++ [y])) (.cons (Dp.tups ((Same.tups a7).trans (Same.tups a8)) _ (noL_enc s) d6) .nil))
    | pa y z s =>
      have e0 : wI (Say.pa y z s).i = wd "pairs" := wd_pairs.symm
      have e1 : ts = [y, z] ++ toks s := by
        have := et
        rw [toks] at this
        exact (List.cons.inj this).2.symm
      subst e1
      have hok2 : sOk s = true := by
        rw [sOk, Bool.and_eq_true] at hok
        exact hok.2
      simp only [dep] at hd h40
      rw [List.append_assoc] at w1 hv1
      have hvs : ∀ z ∈ toks s ++ rest, vis z = true := fun z hz => hv1 z (List.mem_append_right _ hz)
      rw [e0]
      refine ⟨_, rfl, _, _, rfl, .inr (T.tCOMPARING _), rfl, by decide +kernel, _, rfl, if_f (by decide +kernel) ?_⟩
      dsimp only [tNext, gName, tSeq, tIfS]
      refine or2 (a := inV (.str (S (wd "pairs"))) (zPlacing.map V.str)) (b := decide (V.str (S (wd "pairs")) = V.str (Str.ofString "nexts"))) (fun R' q' => ⟨_, rfl, _, _, rfl, .inr (T.tPLACING _), rfl, by decide +kernel, _, rfl, q'⟩) (fun R' q' => ⟨_, rfl, rfl, _, rfl, q'⟩) ?_
      refine if_f (by decide +kernel) ?_
      refine ⟨_, rfl, _, _, rfl, .inr (T.tJOINING _), rfl, by decide +kernel, _, rfl, if_f (by decide +kernel) ?_⟩
      refine ⟨_, rfl, rfl, _, rfl, if_f (by decide +kernel) ?_⟩
      refine ⟨_, rfl, rfl, _, rfl, if_f (by decide +kernel) ?_⟩
      refine ⟨_, rfl, rfl, _, rfl, if_f (by decide +kernel) ⟨_, rfl, rfl, congrArg (fun z => [V.bl z]) (by decide +kernel), ?_⟩⟩
      refine ⟨_, rfl, rfl, .inr ⟨_, rfl, _, _, rfl, rfl, 2, congrArg (fun z => [V.int z]) (by rw [if_pos (by decide +kernel)]; rfl), by omega, by omega, fun L nL => ?_⟩⟩
      have nLl : L ≠ l := Ne.symm (ne_of_none w1.2 nL)
      have nLH : H L = none := k1.free nL nLl
      refine lc_range (lo := 0) (n := ((2 : Int)).toNat) (fun i H' => WS C H' x l (([y, z] : List (List Nat)).drop i ++ (toks s ++ rest)) ∧ Keep l H H' ∧ H' L = some (.lst (strV (([y, z] : List (List Nat)).take i)))) ⟨w1.same (same_new nL), k1.updN nLH, upd_same⟩ ?_ ?_
      · rintro i H2 hi ⟨w2, k2, hL2⟩
        have hi' : i < ([y, z] : List (List Nat)).length := hi
        obtain ⟨dx2, hx2⟩ := w2.1
        have hv2 : ∀ u ∈ ([y, z] : List (List Nat)).drop i ++ (toks s ++ rest), vis u = true := fun u hu => hv1 u (by
          rcases List.mem_append.mp hu with hu | hu
          · exact List.mem_append_left _ (List.mem_of_mem_drop hu)
          · exact List.mem_append_right _ hu)
        rw [List.drop_eq_getElem_cons hi'] at w2 hv2
        have nLx : L ≠ x := by
          intro e
          rw [e, hx2] at hL2
          cases hL2
        refine ⟨rfl, _, rfl, x, dx2, _, rfl, hx2, wno _ _ (by decide +kernel), x, l, _, _, rfl, w2, hv2, fun H3 k3 l3 => ?_⟩
        · have hL3 := k3 L _ nLl hL2
          have w3 := w2.next k3 l3
          obtain ⟨⟨d, h1⟩, h2⟩ := w3
          refine ⟨_, hL3, sz_lt (by rw [strV_len, List.length_take]; omega), ⟨⟨d, by rw [upd_ne (Ne.symm nLx)]; exact h1⟩, by rw [upd_ne (Ne.symm nLl)]; exact h2⟩, (k2.trans k3).updN nLH, ?_⟩
          rw [upd_same, strV_snoc, List.take_add_one, List.getElem?_eq_getElem hi']
          rfl
      · rintro H2 ⟨w2, k2, hL2⟩
        have w2 : WS C H2 x l (toks s ++ rest) := w2
        have hL2 : H2 L = some (.lst (strV [y, z])) := hL2
        refine ⟨L, _, rfl, .inl ⟨SqL.of hL2, fun t1 n1 => ?_⟩⟩
        have t1l : t1 ≠ l := Ne.symm (ne_of_none w2.2 n1)
        have k3 := k2.updN (o := .tup (strV [y, z])) (k2.free n1 t1l)
        have w3 := w2.same (same_new (o := .tup (strV [y, z])) n1)
        have h3 : SqT K (upd H2 t1 (.tup (strV [y, z]))) t1 (strV [y, z]) := SqT.of upd_same
        generalize upd H2 t1 (.tup (strV [y, z])) = H3 at k3 w3 h3
        refine ⟨_, rfl, sz_small (show 1 ≤ 16000000 by decide), fun t2 n2 => ?_⟩
        have t2l : t2 ≠ l := Ne.symm (ne_of_none w3.2 n2)
        have a3 := same_new (o := .tup (strV [wd "pairs"])) n2
        have h4 : SqT K (upd H3 t2 (.tup (strV [wd "pairs"]))) t2 (strV [wd "pairs"]) := SqT.of upd_same
        have k4 := k3.updN (o := .tup (strV [wd "pairs"])) (k3.free n2 t2l)
        refine ⟨_, rfl, cat_use h4 (Same.sqT a3 h3) (by rw [strV_len, strV_len]; show 1 + 2 ≤ _; omega) fun t5 H5 a5 h5 => ?_⟩
        have w5 := (w3.same a3).same a5
        have k5 := k4.trans (Keep.of a5)
        rw [strV_app] at h5
        obtain ⟨dx5, hx5⟩ := w5.1
        refine ⟨_, rfl, x, dx5, _, rfl, hx5, wno _ _ (by decide +kernel), _, rfl, _, _, rfl, rfl, x, l, s, rest, _, rfl, w5, hv, hok2, by omega, by omega, fun v6 H6 k6 l6 d6 => ?_⟩
        refine ⟨sz_small (show 1 ≤ 16000000 by decide), fun t7 n7 => ?_⟩
        have t7l : t7 ≠ l := Ne.symm (ne_of_none l6 n7)
        have k7 := (k5.trans k6).updN (o := .tup [v6]) ((k5.trans k6).free n7 t7l)
        have a7 := same_new (o := .tup [v6]) n7
        refine cat_use (Same.sqT a7 ((k6.tups w5.2).sq h5)) (SqT.of upd_same) (by rw [strV_len]; show 1 + 2 + 1 ≤ _; omega) fun t8 H8 a8 h8 => ?_
        refine q _ _ (k7.trans (Keep.of a8)) (a8 _ _ (a7 _ _ l6)) ?_
        rw [enc]
        exact .tup h8 (DpAll.append (dpa_strs ([wd "pairs"] ++ [y, z])) (.cons (Dp.tups ((Same.tups a7).trans (Same.tups a8)) _ (noL_enc s) d6) .nil))
end
end Ep

/-! 25. read_saying. -/
namespace Ep
open PySem PySem.Spec PyProof.Rows L2 SX
open C8 (Cal Met Mak Def cal0 met0 mak0 pe_c pe_mk pe_mt pe_mt0 fnBody fnScope fnArgs fnScope_by pe_gc pss_cut)
section
variable {P : Program} {w : World} {K : PySem.W.Frag} {mg : Str → Option Value} {base : Heap} {A : Ad}
abbrev sReadSaying : Stmt := top 39
abbrev nReadSaying : List Str := ["cast", "text", "words", "found"]
theorem scReadSaying : FnScope nReadSaying ["cast", "text"] (fnScope sReadSaying) := fnScope_by (by decide +kernel)
def spReadSaying (K : PySem.W.Frag) : Sp := fun vs H Q _ => ∃ (cv : V) (C : Cast) (s : Say), vs = [cv, .str (S (text s))] ∧ Dp K H cv (castD C) ∧ CbOk C [] ∧ sOk s = true ∧ said C s [] = true ∧ dep s ≤ 7 ∧
  ∀ v H', Same H H' → Dp K H' v (enc s) → Q v H'
theorem ok_read_saying {C : Addr} (T : Tx K mg A) (c : Cls K C) (na : NoAttr K C "words_left") (c_must_be : Cal P w K mg base 1 "must_be" spMust []) (m_words : Mak P w K mg base 2 "Words" C (spInit C) []) (m_saying : Met P w K mg base 18 C "saying" (spRead K C 7) [])
    (c_is_saying : Cal P w K mg base 19 "is_saying" (spIsSaying K) []) (c_show_saying : Cal P w K mg base 10 "show_saying" (spShow K 7) []) (D : Dfn K mg "read_saying" sReadSaying) : Cal P w K mg base 20 "read_saying" (spReadSaying K) [] := by
  refine cal_of D scReadSaying (fun _ _ _ _ _ _ us hl => match us, hl with | [_, _], _ => rfl) (fun vs H Q E h => ?_) (fun f cdv A outer s0 H vs Q E hr h => ?_)
  · obtain ⟨_, _, _, rfl, _⟩ := h
    rfl
  obtain ⟨cv, Ca, s, rfl, hC, ok, hs, hsd, hd, q⟩ := h
  refine ⟨_, (pss_cons
    (ps_set (i := 2) scReadSaying.nd rfl (Or.inl rfl) (pe_mk m_words hr (by decide) (by rfl) (pa_cons (pv 1) pa_nil)))
    (pss_cons
    (ps_set (i := 3) scReadSaying.nd rfl (Or.inl rfl) (pe_mt m_saying hr (by decide) (pv 2) (pa_cons pe_int pa_nil)))
    (pss_cons
    (ps_expr (pe_c c_must_be hr (by decide) (by rfl) (pa_cons (pe_and (pe_cmpR (op_eqD hr.units) (pe_fld (pv 2) rfl) (pe_lst pa_nil) (nomark _)) (pe_and (pe_c c_is_saying hr (by decide) (by rfl) (pa_cons (pv 0) (pa_cons (pv 3) pa_nil))) (pe_one (pe_cmpR op_eq (pe_c c_show_saying hr (by decide) (by rfl) (pa_cons (pv 3) pa_nil)) (pv 1) (nomark _))))) pa_nil)))
    (pss_one
    (ps_ret (pv 3)))))), ?_⟩
  have tsm := text_small hs hd
  refine ⟨_, rfl, fun x dx nx ndx dne => ?_⟩
  have a1 : Same H (upd (upd H dx (.own x)) x (.ins C dx [])) := (same_new ndx).trans (same_new (by rw [upd_ne dne.symm]; exact nx))
  refine ⟨x, dx, toks s, rfl, upd_same, toks_ne s, vis_toks s hs, Nat.le_trans tsm (by decide), fun l H1 k1 nl hx1 hl1 => ⟨rfl, ?_⟩⟩
  have s1 : Same H H1 := fun b o hb => k1 b o (ne_of_none hb nx) (a1 b o hb)
  have nlH : H l = none := Same.free a1 nl
  have w1 : WS C H1 x l (toks s ++ []) := ⟨⟨dx, hx1⟩, by rw [List.append_nil]; exact hl1⟩
  refine ⟨_, rfl, x, dx, _, rfl, hx1, wno _ _ (by decide +kernel), x, l, s, [], 0, rfl, w1, (fun _ h => nomatch h), hs, hd, by omega, fun v H2 k2 l2 d2 => ?_⟩
  have s2 : Same H H2 := fun b o hb => k2 b o (ne_of_none hb nlH) (s1 b o hb)
  have w2 := w1.next k2 l2
  obtain ⟨dx2, hx2⟩ := w2.1
  refine ⟨_, rfl, x, C, dx2, _, _, rfl, hx2, c, na, wyes _, Nat.zero_le _, fun b nb => ?_⟩
  have a3 := same_new (o := .lst []) nb
  have hb : upd H2 b (.lst []) b = some (.lst []) := upd_same
  generalize upd H2 b (.lst []) = H3 at a3 hb
  refine ⟨.list [], .list [], .lst (SqL.of (a3 _ _ l2)) .nil, .lst (SqL.of hb) .nil, shaped_nilL, shaped_nilL, _, rfl, if_t (by simp [PyData.eqv, PyData.eqvAll]) ?_⟩
  have s3 := s2.trans a3
  have d3 := Dp.tups (Same.tups a3) _ (noL_enc s) d2
  refine ⟨_, rfl, _, rfl, cv, v, Ca, s, rfl, Dp.tups (Same.tups s3) _ (noL_castD Ca) hC, ok, d3, hs, hd, fun H4 a4 => ⟨_, rfl, if_t hsd ?_⟩⟩
  have d4 := Dp.tups (Same.tups a4) _ (noL_enc s) d3
  refine ⟨_, rfl, v, s, rfl, d4, hs, hd, hd, fun H5 a5 => ?_⟩
  refine ⟨_, rfl, rfl, congrArg (fun z => [V.bl z]) (decide_eq_true rfl), ?_⟩
  exact ⟨_, rfl, q v H5 ((s3.trans a4).trans a5) (Dp.tups (Same.tups a5) _ (noL_enc s) d4)⟩
end
end Ep

/-! 26. The module's facts, from what the top has written. -/
namespace Ep
open PySem PySem.Spec PyProof.Rows L2 SX
open C8 (Cal Met Mak Def fnBody fnScope fnArgs)
theorem absV_rel {u : Value} {v : V} (h : absV u = some v) : RelV v u := by
  cases u with
  | none => cases h; rfl
  | bool b => cases h; rfl
  | int i t => cases h; exact ⟨t, rfl⟩
  | str x t => cases h; exact ⟨t, rfl⟩
  | bytes b t => cases h; exact ⟨t, rfl⟩
  | float b t => cases h; exact ⟨t, rfl⟩
  | ref a => cases h; rfl
  | type n => cases h; rfl
  | _ => cases h
theorem vals_of : ∀ {xs : List V} {us : List Value}, us.map absV = xs.map some → Vals xs us
  | [], [], _ => .nil
  | [], _ :: _, h => by cases h
  | _ :: _, [], h => by cases h
  | x :: xs, u :: us, h => by
    have e := List.cons.inj h
    exact .cons (absV_rel e.1) (vals_of e.2)
section
variable {K : PySem.W.Frag} {h : Heap} {mg : Str → Option Value}
theorem con_mk {x : Str} {v : V} {u : Value} (X : K.In h) (G : h.Ns mainGlobals mg) (a : PySem.W.nsIn K mainGlobals x = some (some u)) (r : absV u = some v) : ∃ u, mg x = some u ∧ RelV v u := ⟨u, PySem.W.mg_of X G a, absV_rel r⟩
theorem tupc_mk {x : Str} {p : Addr} (X : K.In h) (G : h.Ns mainGlobals mg) (a : PySem.W.nsIn K mainGlobals x = some (some (.ref p))) : ∃ u, mg x = some u ∧ RelV (.ref p) u := ⟨_, PySem.W.mg_of X G a, rfl⟩
def strsB : List Str → List Value → Bool
  | [], [] => true
  | x :: xs, .str y _ :: us => decide (x = y) && strsB xs us
  | _, _ => false
theorem strsB_vals : ∀ {xs : List Str} {us : List Value}, strsB xs us = true → Vals (xs.map V.str) us
  | [], [], _ => .nil
  | [], _ :: _, h => by cases h
  | x :: xs, [], h => by cases h
  | x :: xs, u :: us, h => by
    cases u with
    | str y t =>
      have h2 : (decide (x = y) && strsB xs us) = true := h
      rw [Bool.and_eq_true, decide_eq_true_eq] at h2
      exact .cons ⟨t, by rw [h2.1]⟩ (strsB_vals h2.2)
    | _ => cases h
theorem tup_mk {p : Addr} {xs : List Str} {od : Option Addr} {its : Array Value} {n : Nat} {sl : Array (Option Value)} (l : K.lookup p = some ⟨.type "tuple", od, .seq its n, sl⟩) (hz : its.size ≤ 100) (v : strsB xs its.toList = true) : ∀ H, SqT K H p (xs.map V.str) :=
  fun H => .inr ⟨_, its, n, l, rfl, rfl, Nat.le_trans hz (by decide), strsB_vals v⟩
theorem fun_mk {x qual : Str} {st : Stmt} {f : Addr} {oc : Value} {od an : Option Addr} {osl : Array (Option Value)} {kV doc pm cdv ct : Value} (l : K.lookup f = some ⟨oc, od, .func (PySem.W.fnOf x qual (fnArgs st) (fnBody st) (fnScope st) .none kV doc pm an cdv ct), osl⟩) (c : PySem.W.codeIn K cdv qual = true) :
    ∃ fd, C8.Fun K x qual st f fd ∧ fd.defaults = .none := ⟨_, ⟨oc, od, .none, kV, doc, pm, an, cdv, ct, osl, rfl, l, c⟩, rfl⟩
theorem dfn_mk {x : Str} {st : Stmt} {f : Addr} {oc : Value} {od an : Option Addr} {osl : Array (Option Value)} {kV doc pm cdv ct : Value} (X : K.In h) (G : h.Ns mainGlobals mg) (a : PySem.W.nsIn K mainGlobals x = some (some (.ref f))) (l : K.lookup f = some ⟨oc, od, .func (PySem.W.fnOf x x (fnArgs st) (fnBody st) (fnScope st) .none kV doc pm an cdv ct), osl⟩)
    (c : PySem.W.codeIn K cdv x = true) (k : PySem.W.keepIn K (.ref f) = true) : Dfn K mg x st := by
  obtain ⟨fd, F, df⟩ := fun_mk l c
  exact ⟨f, fd, ⟨F, PySem.W.mg_of X G a, k⟩, df⟩
/-- what the law leans on -/
structure Facts (K : PySem.W.Frag) (mg : Str → Option Value) (A : Ad) (C : Addr) : Prop where
  T : Tx K mg A
  c : Cls K C
  na : NoAttr K C "words_left"
  DI : IDf K mg C "Words" "Words.__init__" sInit
  M_take : MDf K C "take" "Words.take" sTake
  M_comes : MDf K C "comes" "Words.comes" sComes
  M_parts : MDf K C "parts" "Words.parts" sWParts
  M_saying : MDf K C "saying" "Words.saying" sWSaying
  D_is_name : Dfn K mg "is_name" sIsName
  D_is_whole : Dfn K mg "is_whole" sIsWhole
  D_spots_of : Dfn K mg "spots_of" sSpotsOf
  D_is_base : Dfn K mg "is_base" sIsBase
  D_is_sum_at : Dfn K mg "is_sum_at" sIsSumAt
  D_is_new : Dfn K mg "is_new" sIsNew
  D_is_atom : Dfn K mg "is_atom" sIsAtom
  D_are_parts : Dfn K mg "are_parts" sAreParts
  D_is_over_places : Dfn K mg "is_over_places" sIsOverPlaces
  D_is_said : Dfn K mg "is_said" sIsSaid
  D_is_saying : Dfn K mg "is_saying" sIsSaying
  D_must_be : Dfn K mg "must_be" sMustBe
  D_read_number : Dfn K mg "read_number" sReadNumber
  D_show_base : Dfn K mg "show_base" sShowBase
  D_show_sum : Dfn K mg "show_sum" sShowSum
  D_sum_from : Dfn K mg "sum_from" sSumFrom
  D_show_saying : Dfn K mg "show_saying" sShowSaying
  D_read_saying : Dfn K mg "read_saying" sReadSaying
  D__law_deck : Dfn K mg "_law_deck" sDeck
  D__law_draw : Dfn K mg "_law_draw" sDraw
  D__law_tongue : Dfn K mg "_law_tongue" sTongue
  D__law_name : Dfn K mg "_law_name" sName
  D__law_names : Dfn K mg "_law_names" sNames
  D__law_world : Dfn K mg "_law_world" sWorld
  D__law_number : Dfn K mg "_law_number" sNumber
  D__law_spot : Dfn K mg "_law_spot" sSpot
  D__law_sum : Dfn K mg "_law_sum" sSum
  D__law_atom : Dfn K mg "_law_atom" sAtom
  D__law_joined : Dfn K mg "_law_joined" sJoined
  D__law_body : Dfn K mg "_law_body" sBody
  D__law_leaf : Dfn K mg "_law_leaf" sLeaf
  D__law_saying : Dfn K mg "_law_saying" sSaying
  D__law_other : Dfn K mg "_law_other" sOther
theorem tx_mk {t0 t1 t2 t3 t4 t5 t6 t7 : Addr}
    (len_ : mg "len" = none)
    (all_ : mg "all" = none)
    (isinstance_ : mg "isinstance" = none)
    (int_ : mg "int" = none)
    (str_ : mg "str" = none)
    (bool_ : mg "bool" = none)
    (tuple_ : mg "tuple" = none)
    (sorted_ : mg "sorted" = none)
    (range_ : mg "range" = none)
    (vLETTERS : ∃ u, mg "LETTERS" = some u ∧ RelV (.str "abcdefghijklmnopqrstuvwxyz") u)
    (vMOST_LETTERS : ∃ u, mg "MOST_LETTERS" = some u ∧ RelV (.int 8) u)
    (vWORDS : ∃ u, mg "WORDS" = some u ∧ RelV (.ref t0) u) (tWORDS : ∀ H, SqT K H t0 (zWords.map V.str))
    (vEND : ∃ u, mg "END" = some u ∧ RelV (.str "end") u)
    (vCOMPARED : ∃ u, mg "COMPARED" = some u ∧ RelV (.ref t1) u) (tCOMPARED : ∀ H, SqT K H t1 (zCompared.map V.str))
    (vPLACED : ∃ u, mg "PLACED" = some u ∧ RelV (.ref t2) u) (tPLACED : ∀ H, SqT K H t2 (zPlaced.map V.str))
    (vJOINED : ∃ u, mg "JOINED" = some u ∧ RelV (.ref t3) u) (tJOINED : ∀ H, SqT K H t3 (zJoined.map V.str))
    (vPASSED_ON : ∃ u, mg "PASSED_ON" = some u ∧ RelV (.ref t4) u) (tPASSED_ON : ∀ H, SqT K H t4 (zPassed.map V.str))
    (vFIGURES : ∃ u, mg "FIGURES" = some u ∧ RelV (.str "0123456789") u)
    (vMOST_FIGURES : ∃ u, mg "MOST_FIGURES" = some u ∧ RelV (.int 30) u)
    (vDEEPEST : ∃ u, mg "DEEPEST" = some u ∧ RelV (.int 40) u)
    (vCOMPARING : ∃ u, mg "COMPARING" = some u ∧ RelV (.ref t5) u) (tCOMPARING : ∀ H, SqT K H t5 (zCompared.map V.str))
    (vPLACING : ∃ u, mg "PLACING" = some u ∧ RelV (.ref t6) u) (tPLACING : ∀ H, SqT K H t6 (zPlacing.map V.str))
    (vJOINING : ∃ u, mg "JOINING" = some u ∧ RelV (.ref t7) u) (tJOINING : ∀ H, SqT K H t7 (zJoined.map V.str))
    : Tx K mg ⟨t0, t1, t2, t3, t4, t5, t6, t7⟩ where
  len_ := len_
  all_ := all_
  isinstance_ := isinstance_
  int_ := int_
  str_ := str_
  bool_ := bool_
  tuple_ := tuple_
  sorted_ := sorted_
  range_ := range_
  vLETTERS := vLETTERS
  vMOST_LETTERS := vMOST_LETTERS
  vWORDS := vWORDS
  tWORDS := tWORDS
  vEND := vEND
  vCOMPARED := vCOMPARED
  tCOMPARED := tCOMPARED
  vPLACED := vPLACED
  tPLACED := tPLACED
  vJOINED := vJOINED
  tJOINED := tJOINED
  vPASSED_ON := vPASSED_ON
  tPASSED_ON := tPASSED_ON
  vFIGURES := vFIGURES
  vMOST_FIGURES := vMOST_FIGURES
  vDEEPEST := vDEEPEST
  vCOMPARING := vCOMPARING
  tCOMPARING := tCOMPARING
  vPLACING := vPLACING
  tPLACING := tPLACING
  vJOINING := vJOINING
  tJOINING := tJOINING
theorem facts_mk {A : Ad} {C fI fT fC fP fS : Addr} (T : Tx K mg A) (hC : mg "Words" = some (.ref C)) (c : Cls K C) (na : PySem.W.findIn K (.ref C) "words_left" = some none) (mk : Mk K C fI) (FI : ∃ fd, C8.Fun K "__init__" "Words.__init__" sInit fI fd ∧ fd.defaults = .none)
    (me_take : Meth K C "take" fT) (F_take : ∃ fd, C8.Fun K "take" "Words.take" sTake fT fd ∧ fd.defaults = .none)
    (me_comes : Meth K C "comes" fC) (F_comes : ∃ fd, C8.Fun K "comes" "Words.comes" sComes fC fd ∧ fd.defaults = .none)
    (me_parts : Meth K C "parts" fP) (F_parts : ∃ fd, C8.Fun K "parts" "Words.parts" sWParts fP fd ∧ fd.defaults = .none)
    (me_saying : Meth K C "saying" fS) (F_saying : ∃ fd, C8.Fun K "saying" "Words.saying" sWSaying fS fd ∧ fd.defaults = .none)
    (D_is_name : Dfn K mg "is_name" sIsName)
    (D_is_whole : Dfn K mg "is_whole" sIsWhole)
    (D_spots_of : Dfn K mg "spots_of" sSpotsOf)
    (D_is_base : Dfn K mg "is_base" sIsBase)
    (D_is_sum_at : Dfn K mg "is_sum_at" sIsSumAt)
    (D_is_new : Dfn K mg "is_new" sIsNew)
    (D_is_atom : Dfn K mg "is_atom" sIsAtom)
    (D_are_parts : Dfn K mg "are_parts" sAreParts)
    (D_is_over_places : Dfn K mg "is_over_places" sIsOverPlaces)
    (D_is_said : Dfn K mg "is_said" sIsSaid)
    (D_is_saying : Dfn K mg "is_saying" sIsSaying)
    (D_must_be : Dfn K mg "must_be" sMustBe)
    (D_read_number : Dfn K mg "read_number" sReadNumber)
    (D_show_base : Dfn K mg "show_base" sShowBase)
    (D_show_sum : Dfn K mg "show_sum" sShowSum)
    (D_sum_from : Dfn K mg "sum_from" sSumFrom)
    (D_show_saying : Dfn K mg "show_saying" sShowSaying)
    (D_read_saying : Dfn K mg "read_saying" sReadSaying)
    (D__law_deck : Dfn K mg "_law_deck" sDeck)
    (D__law_draw : Dfn K mg "_law_draw" sDraw)
    (D__law_tongue : Dfn K mg "_law_tongue" sTongue)
    (D__law_name : Dfn K mg "_law_name" sName)
    (D__law_names : Dfn K mg "_law_names" sNames)
    (D__law_world : Dfn K mg "_law_world" sWorld)
    (D__law_number : Dfn K mg "_law_number" sNumber)
    (D__law_spot : Dfn K mg "_law_spot" sSpot)
    (D__law_sum : Dfn K mg "_law_sum" sSum)
    (D__law_atom : Dfn K mg "_law_atom" sAtom)
    (D__law_joined : Dfn K mg "_law_joined" sJoined)
    (D__law_body : Dfn K mg "_law_body" sBody)
    (D__law_leaf : Dfn K mg "_law_leaf" sLeaf)
    (D__law_saying : Dfn K mg "_law_saying" sSaying)
    (D__law_other : Dfn K mg "_law_other" sOther)
    : Facts K mg A C where
  T := T
  c := c
  na := na
  DI := by
    obtain ⟨fd, F, df⟩ := FI
    exact ⟨fI, fd, mk, hC, F, df⟩
  M_take := by
    obtain ⟨fd, F, df⟩ := F_take
    exact ⟨fT, fd, c, me_take, F, df⟩
  M_comes := by
    obtain ⟨fd, F, df⟩ := F_comes
    exact ⟨fC, fd, c, me_comes, F, df⟩
  M_parts := by
    obtain ⟨fd, F, df⟩ := F_parts
    exact ⟨fP, fd, c, me_parts, F, df⟩
  M_saying := by
    obtain ⟨fd, F, df⟩ := F_saying
    exact ⟨fS, fd, c, me_saying, F, df⟩
  D_is_name := D_is_name
  D_is_whole := D_is_whole
  D_spots_of := D_spots_of
  D_is_base := D_is_base
  D_is_sum_at := D_is_sum_at
  D_is_new := D_is_new
  D_is_atom := D_is_atom
  D_are_parts := D_are_parts
  D_is_over_places := D_is_over_places
  D_is_said := D_is_said
  D_is_saying := D_is_saying
  D_must_be := D_must_be
  D_read_number := D_read_number
  D_show_base := D_show_base
  D_show_sum := D_show_sum
  D_sum_from := D_sum_from
  D_show_saying := D_show_saying
  D_read_saying := D_read_saying
  D__law_deck := D__law_deck
  D__law_draw := D__law_draw
  D__law_tongue := D__law_tongue
  D__law_name := D__law_name
  D__law_names := D__law_names
  D__law_world := D__law_world
  D__law_number := D__law_number
  D__law_spot := D__law_spot
  D__law_sum := D__law_sum
  D__law_atom := D__law_atom
  D__law_joined := D__law_joined
  D__law_body := D__law_body
  D__law_leaf := D__law_leaf
  D__law_saying := D__law_saying
  D__law_other := D__law_other
theorem goon {A : Ad} {C fa : Addr} {R : Prop} {nm : Str} (X : K.In h) (G : h.Ns mainGlobals mg) (F : Facts K mg A C) (r : Facts K mg A C → mg nm = some (.ref fa) → R) : mg nm = some (.ref fa) → R := fun hfa => r F hfa
end
end Ep

/-! 27. The law. -/
namespace Ep
open PySem PySem.Spec PyProof.Rows L2 SX
open C8 (Cal Met Mak Def cal0 met0 mak0 pe_c pe_mk pe_mt pe_mt0 fnBody fnScope fnArgs fnScope_by pe_gc pss_cut)
theorem cutV_ints (ns : List Int) (lo hi : Option Int) : cutV (ns.map V.int) lo hi = (cutL ns lo hi).map V.int := by
  unfold cutV cutL
  rw [List.length_map, List.map_take, List.map_drop]
theorem eqv_dec {s t : Say} : PyData.eqv (enc s) (enc t) = true → s = t := fun h => enc_inj s t (eqv_eq _ _ (plain_enc s) (plain_enc t) h)
section
variable {P : Program} {w : World} {K : PySem.W.Frag} {mg : Str → Option Value} {base : Heap} {A : Ad}
abbrev sLaw : Stmt := top 56
abbrev nLaw : List Str := ["_law_script", "_law_cell", "_law_deck_here", "_law_world_here", "_law_sayings", "_law_texts", "_law_k", "_law_j", "_law_turn", "_law_saying_here"]
theorem scLaw : FnScope nLaw ["_law_script"] (fnScope sLaw) := fnScope_by (by decide +kernel)
def spLaw (K : PySem.W.Frag) : Sp := fun vs H Q _ => ∃ (a : Addr) (ns : List Int), vs = [.ref a] ∧ SqL K H a (ns.map V.int) ∧ ns.length ≤ 63 ∧ ∀ H', Q (.bl true) H'
theorem ok_law {f : Addr} {fd : FuncData} (T : Tx K mg A) (c_deck : Cal P w K mg base 1 "_law_deck" spDeck []) (c_world : Cal P w K mg base 4 "_law_world" (spWorld K) []) (c_saying : Cal P w K mg base 13 "_law_saying" (spSaying K 4) []) (c_other : Cal P w K mg base 4 "_law_other" (spOther K) [])
    (c_is_saying : Cal P w K mg base 19 "is_saying" (spIsSaying K) []) (c_show_saying : Cal P w K mg base 10 "show_saying" (spShow K 7) []) (c_read_saying : Cal P w K mg base 20 "read_saying" (spReadSaying K) []) (F : C8.Fun K "law" "law" sLaw f fd) : FnOk P w K mg base C8.CX0 21 f fd ["_law_script"] (spLaw K) := by
  refine C8.fn0 F scLaw (fun vs H Q E h => ?_) (fun cdv A outer s0 H vs Q E hr h => ?_)
  · obtain ⟨_, _, rfl, _⟩ := h
    rfl
  obtain ⟨a, ns, rfl, hS, h63, q⟩ := h
  refine ⟨_, (pss_cons
    (ps_for PassesOwn.never rfl (pi_list (pe_op op_cat (pe_slice sl_list (pv 0) po_none (po_some pe_int)) (pe_lst (pa_cons pe_int pa_nil)))) (pg_name (i := 1) scLaw.nd rfl (Or.inl rfl)) (pss_cons
    (ps_set (i := 2) scLaw.nd rfl (Or.inr rfl) (pe_c c_deck hr (by decide) (by rfl) (pa_cons (pv 1) pa_nil)))
    (pss_cons
    (ps_set (i := 3) scLaw.nd rfl (Or.inr rfl) (pe_c c_world hr (by decide) (by rfl) (pa_cons (pv 2) pa_nil)))
    (pss_cons
    (ps_setLc (i := 4) (own := [("_law_turn", 8)]) (g := gName 8) (tt := tYes) rfl scLaw.nd rfl rfl (sw_true rfl rfl rfl (by decide +kernel)) (pi_range1 rfl T.range_ (pa_cons pe_int pa_nil)) (blkOk_by (own := [("_law_turn", 8)]) (N := nLaw) (sc := fnScope sLaw) (by decide +kernel)) (fun _ _ _ _ _ => pg_name (i := 8) scLaw.nd rfl (Or.inl rfl)) (fun _ _ _ _ _ => pts_nil) (fun _ _ _ _ _ => (pe_c c_saying hr (by decide) (by rfl) (pa_cons (pv 2) (pa_cons (pv 3) (pa_cons pe_int (pa_cons pe_int pa_nil)))))))
    (pss_cons
    (ps_set (i := 4) scLaw.nd rfl (Or.inl rfl) (pe_op op_cat (pv 4) (pe_lc (own := [("_law_saying_here", 9)]) (g := gName 9) (tt := tYes) rfl scLaw.nd (pi_list (pv 4)) (blkOk_by (own := [("_law_saying_here", 9)]) (N := nLaw) (sc := fnScope sLaw) (by decide +kernel)) (fun _ _ _ _ _ => pg_name (i := 9) scLaw.nd rfl (Or.inl rfl)) (fun _ _ _ _ _ => pts_nil) (fun _ _ _ _ _ => (pe_c c_other hr (by decide) (by rfl) (pa_cons (pv 2) (pa_cons (pv 3) (pa_cons (pv 9) pa_nil))))))))
    (pss_cons
    (ps_setLc (i := 4) (own := [("_law_saying_here", 9)]) (g := gName 9) (tt := _) rfl scLaw.nd rfl rfl (sw_true rfl rfl rfl (by decide +kernel)) (pi_list (pv 4)) (blkOk_by (own := [("_law_saying_here", 9)]) (N := nLaw) (sc := fnScope sLaw) (by decide +kernel)) (fun _ _ _ _ _ => pg_name (i := 9) scLaw.nd rfl (Or.inl rfl)) (fun _ _ _ _ _ => (pts_one (pt_val (pe_c c_is_saying hr (by decide) (by rfl) (pa_cons (pe_ix (ix_tupK (K := K)) (pv 3) pe_int (fun _ _ => rfl)) (pa_cons (pv 9) pa_nil)))))) (fun _ _ _ _ _ => (pv 9)))
    (pss_cons
    (ps_setLc (i := 5) (own := [("_law_saying_here", 9)]) (g := gName 9) (tt := tYes) rfl scLaw.nd rfl rfl (sw_true rfl rfl rfl (by decide +kernel)) (pi_list (pv 4)) (blkOk_by (own := [("_law_saying_here", 9)]) (N := nLaw) (sc := fnScope sLaw) (by decide +kernel)) (fun _ _ _ _ _ => pg_name (i := 9) scLaw.nd rfl (Or.inl rfl)) (fun _ _ _ _ _ => pts_nil) (fun _ _ _ _ _ => (pe_c c_show_saying hr (by decide) (by rfl) (pa_cons (pv 9) pa_nil))))
    (pss_one
    (ps_for PassesOwn.never rfl (pi_range1 rfl T.range_ (pa_cons (pe_callB call_len_seq (by rfl) T.len_ (by decide +kernel) (pa_cons (pv 4) pa_nil)) pa_nil)) (pg_name (i := 6) scLaw.nd rfl (Or.inl rfl)) (pss_cons
    (ps_if (pt_cmpR (op_neD hr.units) (pe_c c_read_saying hr (by decide) (by rfl) (pa_cons (pe_ix (ix_tupK (K := K)) (pv 3) pe_int (fun _ _ => rfl)) (pa_cons (pe_ix (ix_listK (K := K)) (pv 5) (pv 6) (fun _ _ => rfl)) pa_nil))) (pe_ix (ix_listK (K := K)) (pv 4) (pv 6) (fun _ _ => rfl)) (nomark _)) (pss_one
    (ps_ret pe_bl)) pss_nil)
    (pss_one
    (ps_for PassesOwn.never rfl (pi_range1 rfl T.range_ (pa_cons (pv 6) pa_nil)) (pg_name (i := 7) scLaw.nd rfl (Or.inl rfl)) (pss_one
    (ps_if (pt_cmpR op_ne (pe_cmpR op_eq (pe_ix (ix_listK (K := K)) (pv 5) (pv 7) (fun _ _ => rfl)) (pe_ix (ix_listK (K := K)) (pv 5) (pv 6) (fun _ _ => rfl)) (nomark _)) (pe_cmpR (op_eqD hr.units) (pe_ix (ix_listK (K := K)) (pv 4) (pv 7) (fun _ _ => rfl)) (pe_ix (ix_listK (K := K)) (pv 4) (pv 6) (fun _ _ => rfl)) (nomark _)) (nomark _)) (pss_one
    (ps_ret pe_bl)) pss_nil))))))))))))))
    (pss_one
    (ps_ret pe_bl))), ?_⟩
  refine ⟨_, rfl, 6, rfl, a, _, rfl, hS, fun p1 n1 => ?_⟩
  rw [cutV_ints]
  have hl6 : (cutL ns none (some 6)).length ≤ 63 := Nat.le_trans (cutL_len ns none (some 6)) h63
  refine ⟨sz_small (show 1 ≤ 16000000 by decide), fun p2 n2 => ?_⟩
  refine ⟨p1, p2, _, _, rfl, rfl, same_new n2 _ _ upd_same, upd_same, sz_small (by rw [List.length_map]; show _ + 1 ≤ _; omega), fun p3 n3 => ?_⟩
  have e3 : (cutL ns none (some 6)).map V.int ++ [V.int 3] = (cutL ns none (some 6) ++ [3]).map V.int := by
    rw [List.map_append]
    rfl
  rw [e3]
  generalize cutL ns none (some 6) ++ [3] = ms
  generalize upd (upd H p1 (.lst ((cutL ns none (some 6)).map V.int))) p2 (.lst [V.int 3]) = H0 at n3
  have hp3 : upd H0 p3 (.lst (ms.map V.int)) p3 = some (.lst (ms.map V.int)) := upd_same
  generalize upd H0 p3 (.lst (ms.map V.int)) = H1 at hp3
  refine ⟨p3, rfl, ⟨_, SqL.of hp3⟩, for_list (K := K) (a := p3) (xs := ms.map V.int) (fun i σ H' => Same H1 H' ∧ ∃ o1 o2 o3 o4 o5 o6 o7 o8 o9, σ = [some (.ref a), o1, o2, o3, o4, o5, o6, o7, o8, o9])
    ⟨Same.refl H1, _, _, _, _, _, _, _, _, _, rfl⟩ (fun i σ H' _ h => SqL.of (h.1 _ _ hp3)) ?_ (fun σ H' _ => q H')⟩
  rintro i y σ H2 hi ⟨sm, o1, o2, o3, o4, o5, o6, o7, o8, o9, rfl⟩
  obtain ⟨m, rfl⟩ : ∃ m, y = V.int m := by
    rw [List.getElem?_map] at hi
    cases e : ms[i]? with
    | none =>
      rw [e] at hi
      cases hi
    | some u =>
      rw [e] at hi
      exact ⟨u, (Option.some.inj hi).symm⟩
  refine ⟨_, rfl, m, rfl, fun p H3 np a3 d3 => ?_⟩
  refine ⟨_, rfl, p, 0, rfl, d3, by decide, fun C sp wv H4 k4 d4 wok dw => ?_⟩
  have m4 : Same H2 H4 := fun b o hb => k4 b o (ne_of_none hb np) (a3 b o hb)
  have s4 : sN 4 = 363000 := by decide
  refine ⟨4, rfl, by decide, by decide, fun L nL => ?_⟩
  have nLp := d4.ne nL
  refine lc_range (lo := 0) (n := ((4 : Int)).toNat) (fun i H' => ∃ (ss : List Say) (ws : List V), ss.length = i ∧ H' L = some (.lst ws) ∧ DpAll K H' ws (ss.map enc) ∧ (∀ s ∈ ss, sOk s = true ∧ w3 s = true ∧ dep s ≤ 5) ∧ Keep p H4 H' ∧ Deck H' p (160 + i * 363000))
    ⟨[], [], rfl, upd_same, .nil, (fun _ h => nomatch h), Keep.of (same_new nL), d4.new nL⟩ ?_ ?_
  · rintro i H5 hi ⟨ss, ws, el, hL, da, hss, k5, d5⟩
    have hi4 : i < 4 := hi
    refine ⟨rfl, _, rfl, _, rfl, p, wv, _, C, sp, 8, 4, rfl, by decide, by decide, by decide, d5, by omega, Dp.tups (d4.tups k5) _ (noL_worldD C sp) dw, wok, fun s v H6 k6 d6 hs h3 hd dv => ?_⟩
    have hL6 := k6 L _ nLp hL
    refine ⟨ws, hL6, sz_lt (by rw [DpAll.length da, List.length_map]; omega), ss ++ [s], ws ++ [v], ?_, upd_same, ?_, fun x hx => ?_, (k5.trans k6).updN nL, ?_⟩
    · rw [List.length_append, el] <;> rfl
    · rw [List.map_append]
      refine DpAll.append (DpAll.tups ((d5.tups k6).trans (Tups.updL hL6)) _ (noLAll_map ss) da) (.cons (Dp.tups (Tups.updL hL6) _ (noL_enc s) dv) .nil)
    · rcases List.mem_append.mp hx with hx | hx
      · exact hss x hx
      · rw [List.mem_singleton.mp hx]
        exact ⟨hs, h3, hd⟩
    · refine (d6.updL nLp).mono ?_
      omega
  rintro H5 ⟨ss, ws, el, hL, da, hss, k5, d5⟩
  have el : ss.length = 4 := el
  have d5 : Deck H5 p (160 + 4 * 363000) := d5
  have m5 : Same H2 H5 := fun b o hb => k5 b o (ne_of_none hb np) (m4 b o hb)
  have dw5 := Dp.tups (d4.tups k5) _ (noL_worldD C sp) dw
  have lws : ws.length = 4 := by rw [DpAll.length da, List.length_map, el]
  refine ⟨_, rfl, _, rfl, L, rfl, ⟨_, SqL.of hL⟩, fun D nD => ?_⟩
  have nDp := d5.ne nD
  have nLD : L ≠ D := ne_of_none hL nD
  refine lc_list (K := K) (a := L) (xs := ws) (fun i H' => ∃ (ts : List Say) (us : List V), ts.length = i ∧ H' D = some (.lst us) ∧ DpAll K H' us (ts.map enc) ∧ (∀ s ∈ ts, sOk s = true ∧ dep s ≤ 6) ∧ Keep p H5 H' ∧ Deck H' p (160 + 4 * 363000 + i * 20))
    ⟨[], [], rfl, upd_same, .nil, (fun _ h => nomatch h), Keep.of (same_new nD), d5.new nD⟩ (fun i H' _ ⟨_, _, _, _, _, _, k, _⟩ => SqL.of (k L _ nLp hL)) ?_ ?_
  · rintro i x H6 hx ⟨ts, us, et, hD, dt, hts, k6, d6⟩
    have hi4 : i < 4 := by
      have := (List.getElem?_eq_some_iff.mp hx).1
      omega
    obtain ⟨d, hd, dx⟩ := DpAll.get da hx
    rw [List.getElem?_map] at hd
    obtain ⟨s, hs, rfl⟩ : ∃ s, ss[i]? = some s ∧ enc s = d := by
      cases e : ss[i]? with
      | none =>
        rw [e] at hd
        cases hd
      | some s =>
        rw [e] at hd
        exact ⟨s, rfl, Option.some.inj hd⟩
    have hms := hss s (List.mem_of_getElem? hs)
    refine ⟨rfl, _, rfl, _, rfl, _, rfl, p, wv, x, _, C, sp, s, rfl, d6, by omega, Dp.tups (d5.tups k6) _ (noL_worldD C sp) dw5, wok, Dp.tups (d5.tups k6) _ (noL_enc s) dx, hms.1, hms.2.1, fun s' v H7 k7 d7 hs' hd' dv => ?_⟩
    have hD7 := k7 D _ nDp hD
    refine ⟨us, hD7, sz_lt (by rw [DpAll.length dt, List.length_map]; omega), ts ++ [s'], us ++ [v], ?_, upd_same, ?_, fun z hz => ?_, (k6.trans k7).updN nD, ?_⟩
    · rw [List.length_append, et] <;> rfl
    · rw [List.map_append]
      refine DpAll.append (DpAll.tups ((d6.tups k7).trans (Tups.updL hD7)) _ (noLAll_map ts) dt) (.cons (Dp.tups (Tups.updL hD7) _ (noL_enc s') dv) .nil)
    · rcases List.mem_append.mp hz with hz | hz
      · exact hts z hz
      · rw [List.mem_singleton.mp hz]
        exact ⟨hs', by have := hms.2.2; omega⟩
    · refine (d7.updL nDp).mono ?_
      omega
  rintro H6 ⟨ts, us, et, hD, dt, hts, k6, d6⟩
  have lus : us.length = 4 := by rw [DpAll.length dt, List.length_map, et, lws]
  have m6 : Same H2 H6 := fun b o hb => k6 b o (ne_of_none hb np) (m5 b o hb)
  have dw6 := Dp.tups (d5.tups k6) _ (noL_worldD C sp) dw5
  have hL6 := k6 L _ nLp hL
  refine ⟨L, D, _, _, rfl, rfl, hL6, hD, sz_small (by omega), fun E0 nE => ?_⟩
  have a7 := same_new (o := .lst (ws ++ us)) nE
  have hE : upd H6 E0 (.lst (ws ++ us)) E0 = some (.lst (ws ++ us)) := upd_same
  have dall : DpAll K (upd H6 E0 (.lst (ws ++ us))) (ws ++ us) ((ss ++ ts).map enc) := by
    rw [List.map_append]
    exact DpAll.append (DpAll.tups ((d5.tups k6).trans (Same.tups a7)) _ (noLAll_map ss) da) (DpAll.tups (Same.tups a7) _ (noLAll_map ts) dt)
  have hall : ∀ s ∈ ss ++ ts, sOk s = true ∧ dep s ≤ 6 := fun s hs => by
    rcases List.mem_append.mp hs with hs | hs
    · have := hss s hs
      exact ⟨this.1, by omega⟩
    · exact hts s hs
  have lall : (ws ++ us).length ≤ 8 := by rw [List.length_append]; omega
  have dw7 := Dp.tups (Same.tups a7) _ (noL_worldD C sp) dw6
  have m7 := m6.trans a7
  generalize upd H6 E0 (.lst (ws ++ us)) = H7 at a7 hE dall dw7 m7
  generalize ss ++ ts = sts at dall hall
  generalize ws ++ us = vs at hE dall lall
  clear lws lus hL6 hD dt hts et da hss el hL d5 d6 k6 k5 dw5 dw6 dw d4 m5 m6 m4
  have cb : CbOk C [] := wok.cb (fun _ h => nomatch h) (Nat.zero_le _)
  refine ⟨_, rfl, E0, rfl, ⟨_, SqL.of hE⟩, fun G nG => ?_⟩
  refine lc_list (K := K) (a := E0) (xs := vs) (fun i H' => ∃ (gs : List Say) (us : List V), gs.length ≤ i ∧ H' G = some (.lst us) ∧ DpAll K H' us (gs.map enc) ∧ (∀ s ∈ gs, sOk s = true ∧ dep s ≤ 6 ∧ said C s [] = true) ∧ Same H7 H')
    ⟨[], [], Nat.zero_le _, upd_same, .nil, (fun _ h => nomatch h), same_new nG⟩ (fun i H' _ ⟨_, _, _, _, _, _, k⟩ => SqL.of (k _ _ hE)) ?_ ?_
  · rintro i x H8 hx ⟨gs, us, gl, hG, dg, hgs, k8⟩
    have hi8 : i < 8 := by
      have := (List.getElem?_eq_some_iff.mp hx).1
      omega
    obtain ⟨d, hd, dx⟩ := DpAll.get dall hx
    rw [List.getElem?_map] at hd
    obtain ⟨s, hs, rfl⟩ : ∃ s, sts[i]? = some s ∧ enc s = d := by
      cases e : sts[i]? with
      | none =>
        rw [e] at hd
        cases hd
      | some s =>
        rw [e] at hd
        exact ⟨s, rfl, Option.some.inj hd⟩
    have hms := hall s (List.mem_of_getElem? hs)
    obtain ⟨wa, ca, sa, rfl, hsq, hC, hsp⟩ := dp_world (Dp.tups (Same.tups k8) _ (noL_worldD C sp) dw7)
    refine ⟨rfl, _, rfl, wa, _, 0, _, rfl, rfl, hsq, rfl, _, rfl, _, x, C, s, rfl, hC, cb, Dp.tups (Same.tups k8) _ (noL_enc s) dx, hms.1, by omega, fun H9 a9 => ⟨_, rfl, ?_⟩⟩
    have hG9 := a9 _ _ hG
    refine ite2 (fun e => ?_) (fun e => ?_)
    · refine ⟨_, rfl, us, hG9, sz_lt (by rw [DpAll.length dg, List.length_map]; omega), gs ++ [s], us ++ [x], ?_, upd_same, ?_, fun z hz => ?_, Same.updN (k8.trans a9) nG⟩
      · rw [List.length_append]
        show gs.length + 1 ≤ _
        omega
      · rw [List.map_append]
        refine DpAll.append (DpAll.tups ((Same.tups a9).trans (Tups.updL hG9)) _ (noLAll_map gs) dg) (.cons (Dp.tups (((Same.tups k8).trans (Same.tups a9)).trans (Tups.updL hG9)) _ (noL_enc s) dx) .nil)
      · rcases List.mem_append.mp hz with hz | hz
        · exact hgs z hz
        · rw [List.mem_singleton.mp hz]
          exact ⟨hms.1, hms.2, e⟩
    · exact ⟨gs, us, by omega, hG9, DpAll.tups (Same.tups a9) _ (noLAll_map gs) dg, hgs, k8.trans a9⟩
  rintro H8 ⟨gs, us, gl, hG, dg, hgs, k8⟩
  have gl8 : gs.length ≤ 8 := Nat.le_trans gl lall
  have lus : us.length = gs.length := by rw [DpAll.length dg, List.length_map]
  have m8 := m7.trans k8
  have dw8 := Dp.tups (Same.tups k8) _ (noL_worldD C sp) dw7
  clear gl dw7 m7 k8 hE dall hall lall a7
  refine ⟨_, rfl, G, rfl, ⟨_, SqL.of hG⟩, fun X nX => ?_⟩
  refine lc_list (K := K) (a := G) (xs := us) (fun i H' => H' X = some (.lst (strV ((gs.take i).map text))) ∧ Same H8 H')
    ⟨by rw [upd_same]; rfl, same_new nX⟩ (fun i H' _ h => SqL.of (h.2 _ _ hG)) ?_ ?_
  · rintro i x H9 hx ⟨hX, k9⟩
    have hi8 : i < gs.length := by
      have := (List.getElem?_eq_some_iff.mp hx).1
      omega
    obtain ⟨d, hd, dx⟩ := DpAll.get dg hx
    rw [List.getElem?_map] at hd
    obtain ⟨s, hs, rfl⟩ : ∃ s, gs[i]? = some s ∧ enc s = d := by
      cases e : gs[i]? with
      | none =>
        rw [e] at hd
        cases hd
      | some s =>
        rw [e] at hd
        exact ⟨s, rfl, Option.some.inj hd⟩
    have hms := hgs s (List.mem_of_getElem? hs)
    refine ⟨rfl, _, rfl, x, s, rfl, Dp.tups (Same.tups k9) _ (noL_enc s) dx, hms.1, by omega, by omega, fun Ha aa => ?_⟩
    refine ⟨_, aa _ _ hX, sz_lt (by rw [strV_len, List.length_map, List.length_take]; omega), ?_, Same.updN (k9.trans aa) nX⟩
    rw [upd_same, List.take_add_one, hs, List.map_append, ← strV_app]
    rfl
  rintro H9 ⟨hX, k9⟩
  rw [lus, List.take_length] at hX
  have m9 := m8.trans k9
  have hG9 := k9 _ _ hG
  have dg9 := DpAll.tups (Same.tups k9) _ (noLAll_map gs) dg
  have dw9 := Dp.tups (Same.tups k9) _ (noL_worldD C sp) dw8
  clear dg dw8 m8 k9 hG
  have atg : ∀ {j : Nat} (hj : j < gs.length), ∃ v, us[j]? = some v ∧ Dp K H9 v (enc gs[j]) := fun {j} hj => DpAll.get' dg9 (by rw [List.getElem?_map, List.getElem?_eq_getElem hj]; rfl)
  have att : ∀ {j : Nat} (hj : j < gs.length), (strV (gs.map text))[j]? = some (V.str (S (text gs[j]))) := fun {j} hj => by
    rw [List.getElem?_map, List.getElem?_map, List.getElem?_eq_getElem hj]
    rfl
  obtain ⟨wa, ca, sa, rfl, hsq, hC, hsp⟩ := dp_world dw9
  refine ⟨_, rfl, G, _, rfl, .inl (SqL.of hG9), _, rfl, ?_, ?_, for_range (lo := 0) (n := ((us.length : Nat) : Int).toNat) (fun i σ' H' => Same H9 H' ∧ ∃ k j t z, σ' = [some (.ref a), some (.int m), some (.ref p), some (.ref wa), some (.ref G), some (.ref X), k, j, t, z]) ⟨Same.refl H9, _, _, _, _, rfl⟩ ?_ ?_⟩
  · omega
  · omega
  · rintro k σ' H10 hk ⟨k10, o1, o2, o3, o4, rfl⟩
    have hkg : k < gs.length := by omega
    have ek : (0 : Int) + (k : Int) = ((k : Nat) : Int) := by omega
    obtain ⟨vk, hvk, dvk⟩ := atg hkg
    have hmk := hgs gs[k] (List.getElem_mem hkg)
    refine ⟨_, rfl, wa, _, 0, _, rfl, rfl, Same.sqT k10 hsq, rfl, _, rfl, _, rfl, X, _, _, _, rfl, rfl, SqL.of (k10 _ _ hX), at_of' ek (att hkg), .ref ca, C, gs[k], rfl, Dp.tups (Same.tups k10) _ (noL_castD C) hC, cb, hmk.1, hmk.2.2, by omega, fun v H11 a11 dv => ?_⟩
    have k11 := k10.trans a11
    refine ⟨_, rfl, _, rfl, G, _, _, vk, rfl, rfl, SqL.of (k11 _ _ hG9), at_of' ek hvk, enc gs[k], enc gs[k], dv, Dp.tups (Same.tups k11) _ (noL_enc _) dvk, shaped_enc hmk.1 (by omega), shaped_enc hmk.1 (by omega), _, rfl, if_f (by rw [eqv_same hmk.1]; rfl) ?_⟩
    refine ⟨_, rfl, _, rfl, ?_, ?_, for_range (lo := 0) (n := ((0 : Int) + (k : Int)).toNat) (fun i σ' H' => Same H9 H' ∧ ∃ j, σ' = [some (.ref a), some (.int m), some (.ref p), some (.ref wa), some (.ref G), some (.ref X), some (.int (0 + (k : Int))), j, o3, o4]) ⟨k11, _, rfl⟩ ?_ ?_⟩
    · omega
    · omega
    · rintro j σ' H12 hj ⟨k12, o5, rfl⟩
      have hjg : j < gs.length := by omega
      have ej : (0 : Int) + (j : Int) = ((j : Nat) : Int) := by omega
      obtain ⟨vj, hvj, dvj⟩ := atg hjg
      have hmj := hgs gs[j] (List.getElem_mem hjg)
      refine ⟨_, rfl, _, rfl, X, _, _, _, rfl, rfl, SqL.of (k12 _ _ hX), at_of' ej (att hjg), _, rfl, _, rfl, X, _, _, _, rfl, rfl, SqL.of (k12 _ _ hX), at_of' ek (att hkg), rfl, ?_⟩
      refine ⟨_, rfl, _, rfl, G, _, _, vj, rfl, rfl, SqL.of (k12 _ _ hG9), at_of' ej hvj, _, rfl, _, rfl, G, _, _, vk, rfl, rfl, SqL.of (k12 _ _ hG9), at_of' ek hvk, enc gs[j], enc gs[k], Dp.tups (Same.tups k12) _ (noL_enc _) dvj, Dp.tups (Same.tups k12) _ (noL_enc _) dvk, shaped_enc hmj.1 (by omega), shaped_enc hmk.1 (by omega), ?_⟩
      have e1 : PyData.eqv (enc gs[j]) (enc gs[k]) = decide (V.str (S (text gs[j])) = V.str (S (text gs[k]))) := by
        by_cases h : gs[j] = gs[k]
        · rw [h, decide_eq_true rfl]
          exact eqv_same hmk.1
        · rw [decide_eq_false fun e => h (text_inj hmj.1 hmk.1 (S_inj (V.str.inj e)))]
          exact Bool.eq_false_iff.mpr fun e => h (eqv_dec e)
      rw [e1]
      refine ⟨rfl, _, rfl, if_f ?_ ⟨k12, _, rfl⟩⟩
      rw [decide_eq_true rfl]
      rfl
    · rintro σ' H12 ⟨k12, o5, rfl⟩
      exact ⟨k12, _, _, _, _, rfl⟩
  · rintro σ' H10 ⟨k10, o1, o2, o3, o4, rfl⟩
    exact ⟨sm.trans (m9.trans k10), _, _, _, _, _, _, _, _, _, rfl⟩
end
end Ep

/-! 28. All together. -/
namespace Ep
open PySem PySem.Spec PyProof.Rows L2 SX
open C8 (Cal Met Mak Def fnBody fnScope fnArgs)
section
variable {P : Program} {w : World} {K : PySem.W.Frag} {h : Heap} {mg : Str → Option Value} {base : Heap}
theorem law_of {A : Ad} {C f : Addr} {fd : FuncData} (F : Facts K mg A C) (FL : C8.Fun K "law" "law" sLaw f fd) : FnOk P w K mg base C8.CX0 21 f fd ["_law_script"] (spLaw K) := by
  have T := F.T
  have c_is_name : Cal P w K mg base 1 "is_name" spIsName [] := ok_is_name T F.D_is_name
  have c_is_whole : Cal P w K mg base 1 "is_whole" spIsWhole [] := ok_is_whole T F.D_is_whole
  have c_spots_of : Cal P w K mg base 1 "spots_of" (spSpots K) [] := ok_spots T F.D_spots_of
  have c_is_base : Cal P w K mg base 1 "is_base" (spIsBase K) [] := ok_is_base T F.D_is_base
  have c_is_sum_at : Cal P w K mg base 2 "is_sum_at" (spIsSumAt K) [] := ok_is_sum_at T c_is_base c_is_whole F.D_is_sum_at
  have c_is_new : Cal P w K mg base 2 "is_new" (spIsNew K) [] := ok_is_new T c_is_name F.D_is_new
  have c_is_atom : Cal P w K mg base 3 "is_atom" (spIsAtom K) [] := ok_is_atom T c_spots_of c_is_sum_at F.D_is_atom
  have c_is_said : Cal P w K mg base 18 "is_said" (spSaid K 7) [] := ok_said T c_is_new c_spots_of c_is_atom F.D_are_parts F.D_is_over_places F.D_is_said 7
  have c_is_saying : Cal P w K mg base 19 "is_saying" (spIsSaying K) [] := ok_is_saying T c_is_said F.D_is_saying
  have c_must_be : Cal P w K mg base 1 "must_be" spMust [] := ok_must F.D_must_be
  have c_read_number : Cal P w K mg base 2 "read_number" spReadNumber [] := ok_read_number T c_must_be F.D_read_number
  have c_show_base : Cal P w K mg base 1 "show_base" (spShowBase K) [] := ok_show_base T F.D_show_base
  have c_show_sum : Cal P w K mg base 2 "show_sum" (spShowSum K) [] := ok_show_sum T c_show_base F.D_show_sum
  have c_sum_from : Cal P w K mg base 3 "sum_from" (spSumFrom K) [] := ok_sum_from T c_must_be c_read_number F.D_sum_from
  have c_show_saying : Cal P w K mg base 10 "show_saying" (spShow K 7) [] := ok_show T c_show_sum F.D_show_saying 7
  have m_words : Mak P w K mg base 2 "Words" C (spInit C) [] := ok_init T F.c F.na c_must_be F.DI
  have m_take : Met P w K mg base 2 C "take" (spTake C) [] := ok_take F.c F.na c_must_be F.M_take
  have m_comes : Met P w K mg base 1 C "comes" (spComes C) [] := ok_comes F.c F.na F.M_comes
  have m_saying : Met P w K mg base 18 C "saying" (spRead K C 7) [] := ok_wsaying T c_must_be c_sum_from m_take m_comes F.M_parts F.M_saying 7
  have c_read_saying : Cal P w K mg base 20 "read_saying" (spReadSaying K) [] := ok_read_saying T F.c F.na c_must_be m_words m_saying c_is_saying c_show_saying F.D_read_saying
  have c_deck : Cal P w K mg base 1 "_law_deck" spDeck [] := ok_deck F.D__law_deck
  have c_draw : Cal P w K mg base 1 "_law_draw" spDraw [] := ok_draw F.D__law_draw
  have c_tongue : Cal P w K mg base 1 "_law_tongue" spTongue [] := ok_tongue F.D__law_tongue
  have c_name : Cal P w K mg base 2 "_law_name" spName [] := ok_name T c_draw F.D__law_name
  have c_names : Cal P w K mg base 3 "_law_names" spNames [] := ok_names T c_tongue c_name F.D__law_names
  have c_world : Cal P w K mg base 4 "_law_world" (spWorld K) [] := ok_world T c_draw c_names F.D__law_world
  have c_number : Cal P w K mg base 2 "_law_number" spNumber [] := ok_number c_draw F.D__law_number
  have c_spot : Cal P w K mg base 2 "_law_spot" (spSpot K) [] := ok_spot T c_draw F.D__law_spot
  have c_sum : Cal P w K mg base 3 "_law_sum" (spSum K) [] := ok_sum T c_draw c_number c_spot F.D__law_sum
  have c_atom : Cal P w K mg base 4 "_law_atom" (spAtom K) [] := ok_atom T c_draw c_spot c_sum F.D__law_atom
  have c_joined : Cal P w K mg base 2 "_law_joined" (spJoined K) [] := ok_joined T c_draw F.D__law_joined
  have c_body : Cal P w K mg base 8 "_law_body" (spBody K 4) [] := ok_body T c_draw c_atom c_joined F.D__law_body 4
  have c_leaf : Cal P w K mg base 9 "_law_leaf" (spLeaf K) [] := ok_leaf T c_draw c_spot c_atom c_body F.D__law_leaf
  have c_saying : Cal P w K mg base 13 "_law_saying" (spSaying K 4) [] := ok_saying T c_draw c_leaf c_joined F.D__law_saying 4
  have c_other : Cal P w K mg base 4 "_law_other" (spOther K) [] := ok_other T c_draw c_sum F.D__law_other
  exact ok_law T c_deck c_world c_saying c_other c_is_saying c_show_saying c_read_saying FL
end
/-- the end: what walk_ofK asks -/
theorem fin {l : PySem.W.OpenLaw} {w : World} {K : PySem.W.Frag} {h : Heap} {mg : Str → Option Value} {A : Ad} {C fL fa : Addr} {oc : Value} {od an : Option Addr} {osl : Array (Option Value)} {kV doc pm cdv ct : Value} (X : K.In h) (G : h.Ns mainGlobals mg) (F : Facts K mg A C)
    (a : PySem.W.nsIn K mainGlobals "law" = some (some (.ref fL))) (lk : K.lookup fL = some ⟨oc, od, .func (PySem.W.fnOf "law" "law" (fnArgs sLaw) (fnBody sLaw) (fnScope sLaw) .none kV doc pm an cdv ct), osl⟩) (c : PySem.W.codeIn K cdv "law" = true) :
    mg "law" = some (.ref fa) → ∃ fd : FuncData, (∀ (s : Shared) (u : Value), BindsTo s fd ⟨[u], []⟩ [("_law_script", u)]) ∧ ∀ base : Heap, K.In base → base.Ns mainGlobals mg → FnOk l.prog w K mg base C8.CX0 21 fa fd ["_law_script"] (spLaw K) := by
  intro hfa
  have e := hfa.symm.trans (PySem.W.mg_of X G a)
  cases e
  exact ⟨PySem.W.fnOf "law" "law" (fnArgs sLaw) (fnBody sLaw) (fnScope sLaw) .none kV doc pm an cdv ct, fun s v => .of_eq rfl, fun base _ _ => law_of F ⟨oc, od, .none, kV, doc, pm, an, cdv, ct, osl, rfl, lk, c⟩⟩
end Ep

open PySem PySem.W PyProof.Rows
set_option maxRecDepth 100000 in
set_option maxHeartbeats 0 in
theorem PySem.Challenge.cw_eachplace_k22_whole_unlike_sayings_unlik_holds : PySem.Challenge.rw_eachplace_k22_whole_unlike_sayings_unlik.Holds := by
  w_on; o_law; k_head; (case hw => w_witness2)
  k_fill
  refine L2.walk_ofK (l := PySem.Challenge.rw_eachplace_k22_whole_unlike_sayings_unlik) (n := 63) (k := 21) (x := "_law_script") (CX := C8.CX0) (sp := fun K => Ep.spLaw K) rfl (by decide) rfl ⟨rfl, by decide, by decide⟩ (fun w h Y => PySem.W.kIn_of Y) ?F (fun K H a ns h1 h2 h3 => ⟨a, ns, rfl, h3, h1, fun _ => rfl⟩) (fun _ _ _ _ z => z)
  case F =>
    intro w mg fa h KX G
    refine' Ep.fin (l := PySem.Challenge.rw_eachplace_k22_whole_unlike_sayings_unlik) KX G (Ep.facts_mk
      (Ep.tx_mk (PySem.W.mg_none_of KX G ?z_len) (PySem.W.mg_none_of KX G ?z_all) (PySem.W.mg_none_of KX G ?z_isinstance) (PySem.W.mg_none_of KX G ?z_int) (PySem.W.mg_none_of KX G ?z_str) (PySem.W.mg_none_of KX G ?z_bool) (PySem.W.mg_none_of KX G ?z_tuple) (PySem.W.mg_none_of KX G ?z_sorted) (PySem.W.mg_none_of KX G ?z_range) (Ep.con_mk KX G ?c_LETTERS ?v_LETTERS) (Ep.con_mk KX G ?c_MOST_LETTERS ?v_MOST_LETTERS) (Ep.tupc_mk KX G ?c_WORDS) (Ep.tup_mk ?l_WORDS ?s_WORDS ?v_WORDS) (Ep.con_mk KX G ?c_END ?v_END) (Ep.tupc_mk KX G ?c_COMPARED) (Ep.tup_mk ?l_COMPARED ?s_COMPARED ?v_COMPARED) (Ep.tupc_mk KX G ?c_PLACED) (Ep.tup_mk ?l_PLACED ?s_PLACED ?v_PLACED) (Ep.tupc_mk KX G ?c_JOINED) (Ep.tup_mk ?l_JOINED ?s_JOINED ?v_JOINED) (Ep.tupc_mk KX G ?c_PASSED_ON) (Ep.tup_mk ?l_PASSED_ON ?s_PASSED_ON ?v_PASSED_ON) (Ep.con_mk KX G ?c_FIGURES ?v_FIGURES) (Ep.con_mk KX G ?c_MOST_FIGURES ?v_MOST_FIGURES) (Ep.con_mk KX G ?c_DEEPEST ?v_DEEPEST) (Ep.tupc_mk KX G ?c_COMPARING) (Ep.tup_mk ?l_COMPARING ?s_COMPARING ?v_COMPARING) (Ep.tupc_mk KX G ?c_PLACING) (Ep.tup_mk ?l_PLACING ?s_PLACING ?v_PLACING) (Ep.tupc_mk KX G ?c_JOINING) (Ep.tup_mk ?l_JOINING ?s_JOINING ?v_JOINING))
      (PySem.W.mg_of KX G ?aC)
      ⟨?pg, ?hd, ?po, ?sa⟩
      ?nA
      ⟨?mk, ?iI, ?jI, ?kC⟩ (Ep.fun_mk ?lI ?cI)
      ⟨?a_take, ?i_take, ?k_take⟩ (Ep.fun_mk ?l_take ?c_take)
      ⟨?a_comes, ?i_comes, ?k_comes⟩ (Ep.fun_mk ?l_comes ?c_comes)
      ⟨?a_parts, ?i_parts, ?k_parts⟩ (Ep.fun_mk ?l_parts ?c_parts)
      ⟨?a_saying, ?i_saying, ?k_saying⟩ (Ep.fun_mk ?l_saying ?c_saying)
      (Ep.dfn_mk KX G ?ais_name ?lis_name ?cis_name ?kis_name)
      (Ep.dfn_mk KX G ?ais_whole ?lis_whole ?cis_whole ?kis_whole)
      (Ep.dfn_mk KX G ?aspots_of ?lspots_of ?cspots_of ?kspots_of)
      (Ep.dfn_mk KX G ?ais_base ?lis_base ?cis_base ?kis_base)
      (Ep.dfn_mk KX G ?ais_sum_at ?lis_sum_at ?cis_sum_at ?kis_sum_at)
      (Ep.dfn_mk KX G ?ais_new ?lis_new ?cis_new ?kis_new)
      (Ep.dfn_mk KX G ?ais_atom ?lis_atom ?cis_atom ?kis_atom)
      (Ep.dfn_mk KX G ?aare_parts ?lare_parts ?care_parts ?kare_parts)
      (Ep.dfn_mk KX G ?ais_over_places ?lis_over_places ?cis_over_places ?kis_over_places)
      (Ep.dfn_mk KX G ?ais_said ?lis_said ?cis_said ?kis_said)
      (Ep.dfn_mk KX G ?ais_saying ?lis_saying ?cis_saying ?kis_saying)
      (Ep.dfn_mk KX G ?amust_be ?lmust_be ?cmust_be ?kmust_be)
      (Ep.dfn_mk KX G ?aread_number ?lread_number ?cread_number ?kread_number)
      (Ep.dfn_mk KX G ?ashow_base ?lshow_base ?cshow_base ?kshow_base)
      (Ep.dfn_mk KX G ?ashow_sum ?lshow_sum ?cshow_sum ?kshow_sum)
      (Ep.dfn_mk KX G ?asum_from ?lsum_from ?csum_from ?ksum_from)
      (Ep.dfn_mk KX G ?ashow_saying ?lshow_saying ?cshow_saying ?kshow_saying)
      (Ep.dfn_mk KX G ?aread_saying ?lread_saying ?cread_saying ?kread_saying)
      (Ep.dfn_mk KX G ?a_law_deck ?l_law_deck ?c_law_deck ?k_law_deck)
      (Ep.dfn_mk KX G ?a_law_draw ?l_law_draw ?c_law_draw ?k_law_draw)
      (Ep.dfn_mk KX G ?a_law_tongue ?l_law_tongue ?c_law_tongue ?k_law_tongue)
      (Ep.dfn_mk KX G ?a_law_name ?l_law_name ?c_law_name ?k_law_name)
      (Ep.dfn_mk KX G ?a_law_names ?l_law_names ?c_law_names ?k_law_names)
      (Ep.dfn_mk KX G ?a_law_world ?l_law_world ?c_law_world ?k_law_world)
      (Ep.dfn_mk KX G ?a_law_number ?l_law_number ?c_law_number ?k_law_number)
      (Ep.dfn_mk KX G ?a_law_spot ?l_law_spot ?c_law_spot ?k_law_spot)
      (Ep.dfn_mk KX G ?a_law_sum ?l_law_sum ?c_law_sum ?k_law_sum)
      (Ep.dfn_mk KX G ?a_law_atom ?l_law_atom ?c_law_atom ?k_law_atom)
      (Ep.dfn_mk KX G ?a_law_joined ?l_law_joined ?c_law_joined ?k_law_joined)
      (Ep.dfn_mk KX G ?a_law_body ?l_law_body ?c_law_body ?k_law_body)
      (Ep.dfn_mk KX G ?a_law_leaf ?l_law_leaf ?c_law_leaf ?k_law_leaf)
      (Ep.dfn_mk KX G ?a_law_saying ?l_law_saying ?c_law_saying ?k_law_saying)
      (Ep.dfn_mk KX G ?a_law_other ?l_law_other ?c_law_other ?k_law_other)) ?aLaw ?lLaw ?cLaw
    (case z_len => k_is)
    (case z_all => k_is)
    (case z_isinstance => k_is)
    (case z_int => k_is)
    (case z_str => k_is)
    (case z_bool => k_is)
    (case z_tuple => k_is)
    (case z_sorted => k_is)
    (case z_range => k_is)
    (case c_LETTERS => k_is)
    (case v_LETTERS => rfl)
    (case c_MOST_LETTERS => k_is)
    (case v_MOST_LETTERS => rfl)
    (case c_WORDS => k_is)
    (case l_WORDS => k_is)
    (case s_WORDS => decide +kernel)
    (case v_WORDS => decide +kernel)
    (case c_END => k_is)
    (case v_END => rfl)
    (case c_COMPARED => k_is)
    (case l_COMPARED => k_is)
    (case s_COMPARED => decide +kernel)
    (case v_COMPARED => decide +kernel)
    (case c_PLACED => k_is)
    (case l_PLACED => k_is)
    (case s_PLACED => decide +kernel)
    (case v_PLACED => decide +kernel)
    (case c_JOINED => k_is)
    (case l_JOINED => k_is)
    (case s_JOINED => decide +kernel)
    (case v_JOINED => decide +kernel)
    (case c_PASSED_ON => k_is)
    (case l_PASSED_ON => k_is)
    (case s_PASSED_ON => decide +kernel)
    (case v_PASSED_ON => decide +kernel)
    (case c_FIGURES => k_is)
    (case v_FIGURES => rfl)
    (case c_MOST_FIGURES => k_is)
    (case v_MOST_FIGURES => rfl)
    (case c_DEEPEST => k_is)
    (case v_DEEPEST => rfl)
    (case c_COMPARING => k_is)
    (case l_COMPARING => k_is)
    (case s_COMPARING => decide +kernel)
    (case v_COMPARING => decide +kernel)
    (case c_PLACING => k_is)
    (case l_PLACING => k_is)
    (case s_PLACING => decide +kernel)
    (case v_PLACING => decide +kernel)
    (case c_JOINING => k_is)
    (case l_JOINING => k_is)
    (case s_JOINING => decide +kernel)
    (case v_JOINING => decide +kernel)
    (case aC => k_is)
    (case pg => k_is)
    (case hd => k_is)
    (case po => k_is)
    (case sa => k_is)
    (case nA => k_is)
    (case mk => k_is)
    (case iI => k_is)
    (case jI => k_is)
    (case kC => k_is)
    (case lI => k_is)
    (case cI => k_is)
    (case a_take => k_is)
    (case i_take => k_is)
    (case k_take => k_is)
    (case l_take => k_is)
    (case c_take => k_is)
    (case a_comes => k_is)
    (case i_comes => k_is)
    (case k_comes => k_is)
    (case l_comes => k_is)
    (case c_comes => k_is)
    (case a_parts => k_is)
    (case i_parts => k_is)
    (case k_parts => k_is)
    (case l_parts => k_is)
    (case c_parts => k_is)
    (case a_saying => k_is)
    (case i_saying => k_is)
    (case k_saying => k_is)
    (case l_saying => k_is)
    (case c_saying => k_is)
    (case ais_name => k_is)
    (case lis_name => k_is)
    (case cis_name => k_is)
    (case kis_name => k_is)
    (case ais_whole => k_is)
    (case lis_whole => k_is)
    (case cis_whole => k_is)
    (case kis_whole => k_is)
    (case aspots_of => k_is)
    (case lspots_of => k_is)
    (case cspots_of => k_is)
    (case kspots_of => k_is)
    (case ais_base => k_is)
    (case lis_base => k_is)
    (case cis_base => k_is)
    (case kis_base => k_is)
    (case ais_sum_at => k_is)
    (case lis_sum_at => k_is)
    (case cis_sum_at => k_is)
    (case kis_sum_at => k_is)
    (case ais_new => k_is)
    (case lis_new => k_is)
    (case cis_new => k_is)
    (case kis_new => k_is)
    (case ais_atom => k_is)
    (case lis_atom => k_is)
    (case cis_atom => k_is)
    (case kis_atom => k_is)
    (case aare_parts => k_is)
    (case lare_parts => k_is)
    (case care_parts => k_is)
    (case kare_parts => k_is)
    (case ais_over_places => k_is)
    (case lis_over_places => k_is)
    (case cis_over_places => k_is)
    (case kis_over_places => k_is)
    (case ais_said => k_is)
    (case lis_said => k_is)
    (case cis_said => k_is)
    (case kis_said => k_is)
    (case ais_saying => k_is)
    (case lis_saying => k_is)
    (case cis_saying => k_is)
    (case kis_saying => k_is)
    (case amust_be => k_is)
    (case lmust_be => k_is)
    (case cmust_be => k_is)
    (case kmust_be => k_is)
    (case aread_number => k_is)
    (case lread_number => k_is)
    (case cread_number => k_is)
    (case kread_number => k_is)
    (case ashow_base => k_is)
    (case lshow_base => k_is)
    (case cshow_base => k_is)
    (case kshow_base => k_is)
    (case ashow_sum => k_is)
    (case lshow_sum => k_is)
    (case cshow_sum => k_is)
    (case kshow_sum => k_is)
    (case asum_from => k_is)
    (case lsum_from => k_is)
    (case csum_from => k_is)
    (case ksum_from => k_is)
    (case ashow_saying => k_is)
    (case lshow_saying => k_is)
    (case cshow_saying => k_is)
    (case kshow_saying => k_is)
    (case aread_saying => k_is)
    (case lread_saying => k_is)
    (case cread_saying => k_is)
    (case kread_saying => k_is)
    (case a_law_deck => k_is)
    (case l_law_deck => k_is)
    (case c_law_deck => k_is)
    (case k_law_deck => k_is)
    (case a_law_draw => k_is)
    (case l_law_draw => k_is)
    (case c_law_draw => k_is)
    (case k_law_draw => k_is)
    (case a_law_tongue => k_is)
    (case l_law_tongue => k_is)
    (case c_law_tongue => k_is)
    (case k_law_tongue => k_is)
    (case a_law_name => k_is)
    (case l_law_name => k_is)
    (case c_law_name => k_is)
    (case k_law_name => k_is)
    (case a_law_names => k_is)
    (case l_law_names => k_is)
    (case c_law_names => k_is)
    (case k_law_names => k_is)
    (case a_law_world => k_is)
    (case l_law_world => k_is)
    (case c_law_world => k_is)
    (case k_law_world => k_is)
    (case a_law_number => k_is)
    (case l_law_number => k_is)
    (case c_law_number => k_is)
    (case k_law_number => k_is)
    (case a_law_spot => k_is)
    (case l_law_spot => k_is)
    (case c_law_spot => k_is)
    (case k_law_spot => k_is)
    (case a_law_sum => k_is)
    (case l_law_sum => k_is)
    (case c_law_sum => k_is)
    (case k_law_sum => k_is)
    (case a_law_atom => k_is)
    (case l_law_atom => k_is)
    (case c_law_atom => k_is)
    (case k_law_atom => k_is)
    (case a_law_joined => k_is)
    (case l_law_joined => k_is)
    (case c_law_joined => k_is)
    (case k_law_joined => k_is)
    (case a_law_body => k_is)
    (case l_law_body => k_is)
    (case c_law_body => k_is)
    (case k_law_body => k_is)
    (case a_law_leaf => k_is)
    (case l_law_leaf => k_is)
    (case c_law_leaf => k_is)
    (case k_law_leaf => k_is)
    (case a_law_saying => k_is)
    (case l_law_saying => k_is)
    (case c_law_saying => k_is)
    (case k_law_saying => k_is)
    (case a_law_other => k_is)
    (case l_law_other => k_is)
    (case c_law_other => k_is)
    (case k_law_other => k_is)
    (case aLaw => k_is)
    (case lLaw => k_is)
    (case cLaw => k_is)
