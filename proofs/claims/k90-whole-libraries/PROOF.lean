import PyProof.Rows.All
import Wide.All
import OpenK.AllK
import Wide.FinOn
import HandS.ForMost
import HandS.IsInst
import HandS.Deep
import HandS.TupAny
import HandS.TupMul
import HandS.Style
import HandS.Steps
import HandS.More
import HandS.Strs
import HandS.SetFor
import HandS.Codes
import HandS.Conv
import HandS.Walk
import HandS.Evl
import KE.DataCmp
import KE.SortData
import KE.GoesMore
import KE.GoesEnum
import KE.KDictPairs
import PySem.Challenge.RW_traitsure_k90_whole_libraries
set_option Elab.async false
set_option linter.all false
set_option maxRecDepth 100000
set_option maxHeartbeats 4000000
/-! rules that the layer lacks: order of data, sorted of data, dict of a tuple of pairs, set of a list of ints, extend by a tuple, enumerate of a tuple -/
namespace Lib
open PySem L2 PySem.Spec PyProof.Rows
section
variable {X : Cx}
/-! ### values' order -/
def rLtD (K : PySem.W.Frag) : R2 := fun x y H Q =>
  ∃ d e, Dp K H x d ∧ Dp K H y e ∧ PySem.W.alike d e = true ∧ d ≠ .none ∧ d.depth ≤ 60 ∧ Q (.bl (PySem.W.dataLt d e)) H
theorem op_ltD (room : X.A.units + 64 < cLine) : OpR X (compareOp .Lt) (rLtD X.K) := by
  intro pins s σ H x y v u Q inv rx ry q
  obtain ⟨d, e, p1, p2, al, nn, dep, k⟩ := q
  obtain ⟨l1, r1⟩ := Dp.reads inv d x v p1 rx
  obtain ⟨l2, r2⟩ := Dp.reads inv e y u p2 ry
  have small := Nat.min_le_left d.depth e.depth
  exact PySem.W.lt_data r1 r2 al nn (by omega) ⟨.bl _, _, inv, rfl, k⟩
/-! ### plain names for readings -/
def rPlus (K : PySem.W.Frag) : R2 := fun x y H Q => rI0 (fun i j => .int (i + j)) x y H Q ∨ rCat x y H Q ∨ rCatA K x y H Q
theorem op_plus : OpR X (binaryOp .Add) (rPlus X.K) := OpR.or op_add (OpR.or op_cat op_catA)
/-- ==, !=: scalars, or data of any depth -/
def rEqX (K : PySem.W.Frag) : R2 := fun x y H Q => rEq x y H Q ∨ rEqD K x y H Q
def rNeX (K : PySem.W.Frag) : R2 := fun x y H Q => rNe x y H Q ∨ rNeD K x y H Q
theorem op_eqX (room : X.A.units + 64 < cLine) : OpR X (compareOp .Eq) (rEqX X.K) := OpR.or op_eq (op_eqD room)
theorem op_neX (room : X.A.units + 64 < cLine) : OpR X (compareOp .NotEq) (rNeX X.K) := OpR.or op_ne (op_neD room)
def rMinus : R2 := rI0 fun i j => .int (i - j)
def rTimes : R2 := rI CMul fun i j => .int (i * j)
def rFdiv : R2 := rI CDiv fun i j => .int (i / j)
def rMod : R2 := rI (fun _ j => 0 < j) fun i j => .int (i % j)
def rPow : R2 := rI CPow fun i j => .int (i ^ j.toNat)
def rNegU : V → Hp → VK → Prop := rU fun i => .int (-i)
def rLe : R2 := rI0 fun i j => .bl (decide (i ≤ j))
def rLenX (K : PySem.W.Frag) : List V → Hp → VK → Prop := fun xs H Q =>
  (∃ p ys, xs = [.ref p] ∧ (SqL K H p ys ∨ SqT K H p ys) ∧ Q (.int ys.length) H) ∨ (∃ z, xs = [.str z] ∧ z.length ≤ sizeLine ∧ Q (.int z.length) H)
theorem c_len : CallR X (.builtin "len") (rLenX X.K) := CallR.or call_len_seq call_len_str
def rListX (K : PySem.W.Frag) : List V → Hp → VK → Prop := fun xs H Q =>
  ∃ p ys, xs = [.ref p] ∧ (SqL K H p ys ∨ SqT K H p ys) ∧ ∀ l, H l = none → Q (.ref l) (upd H l (.lst ys))
theorem c_list : CallR X (.type "list") (rListX X.K) := call_list_of
def rTupleX (K : PySem.W.Frag) : List V → Hp → VK → Prop := fun xs H Q =>
  ∃ p ys, xs = [.ref p] ∧ ((SqL K H p ys ∧ ∀ l, H l = none → Q (.ref l) (upd H l (.tup ys))) ∨ (SqT K H p ys ∧ Q (.ref p) H))
theorem c_tuple : CallR X (.type "tuple") (rTupleX X.K) := call_tuple_of
def rSortedK : List V → Hp → VK → Prop := fun xs H Q => ∃ (a : Addr) (kvs : List (Key × V)) (ks : List Int), xs = [.ref a] ∧ Rd H a (.dK kvs) ∧ kvs.map (·.1) = ks.map Sum.inl ∧ ks.length < 64 ∧
  ∀ (ys : List Int) (p : Addr), ys.Perm ks → ys.Pairwise (· ≤ ·) → H p = none → Q (.ref p) (upd H p (.lst (ys.map V.int)))
theorem c_sortedK (calm : X.calm = true) : CallR X (.builtin "sorted") rSortedK := call_sortedDI calm
end
end Lib

namespace PySem
open AutoSeq1
theorem meetsExtT (l : Addr) (items : Array Value) (n : Nat) (b : Addr) (more : Array Value) (m : Nat) (dd : Option Addr) (sl : Array (Option Value))
    (short : ¬(!items.isEmpty && Builtin.List.listTooLong (items.size + more.size)) = true) (z1 : items.size ≤ sizeLine) (z2 : items.size + more.size ≤ sizeLine + 1) :
    Meets (Builtin.«list.extend» ⟨[.ref l, .ref b], []⟩) (fun _ R s =>
      s.heap.get? l = some { cls := .type "list", dict := none, data := .seq items n, slots := #[] } ∧
      s.heap.get? b = some { cls := .type "tuple", dict := dd, data := .seq more m, slots := sl } ∧
      R (.ok (.ret Value.none)) { s with heap := s.heap.update l (Obj.mapSeq fun x => x ++ more), toks := s.toks }) :=
  .of_wp fun prog w A R s h => by
    obtain ⟨hp, g, d, tk, os⟩ := s
    obtain ⟨hl, hb, h⟩ := h
    have f1 := idx_int
    have f2 := sub_tuple_tuple
    have f3 := sub_list_list
    have f4 := sub_tuple_list
    have f5 := sub_list_tuple
    have z3 : (items ++ more).size ≤ sizeLine + 1 := by
      rw [Array.size_append]
      exact z2
    wp_walk using (wpAny_updateSeq hl rfl (hz := z1) (_hz' := z3)), wpAny_loadPart' hl, wpAny_loadPart' hb
    exact ⟨_, rfl, h⟩
end PySem
namespace Lib
open PySem L2 PySem.Spec PyProof.Rows
section
variable {X : Cx}
def rExtendT (K : PySem.W.Frag) : V → List V → Hp → VK → Prop := fun x vs H Q =>
  ∃ l b xs zs, x = .ref l ∧ vs = [.ref b] ∧ H l = some (.lst xs) ∧ SqT K H b zs ∧ xs.length + zs.length ≤ 1000 ∧ Q .non (upd H l (.lst (xs ++ zs)))
theorem mt_extendT : MtR X "list.extend" (rExtendT X.K) := by
  intro pins s σ H x vs v us Q inv rx rv q
  obtain ⟨l, b, xs, zs, e1, e2, hl, hb, len, k⟩ := q
  subst e1
  subst e2
  cases rx
  obtain ⟨u, eu, ru⟩ := vals1 rv
  subst eu
  cases ru
  obtain ⟨z, its, n, r, ll, e⟩ := inv.lstM hl
  obtain ⟨it2, r2, ⟨⟨oc, od, odt, osl⟩, e2, c2, n2, d2⟩, z2⟩ := inv.tuple hb
  simp only at c2 d2
  subst c2
  subst d2
  have l2 := r2.length
  have big : (1001 : Nat) ≤ sizeLine := by decide
  have sz : its.toArray.size + it2.toArray.size ≤ sizeLine := by
    rw [List.size_toArray, List.size_toArray]
    omega
  have short : ¬ (!its.toArray.isEmpty && Builtin.List.listTooLong (its.toArray.size + it2.toArray.size)) = true := by
    rw [notLongL sz, Bool.and_false]
    exact Bool.false_ne_true
  refine call_meets PySem.F.slot_list_extend ⟨_, e, rfl⟩ PySem.F.entry_list_extend (PySem.F.args_list_extend_2 _ _)
    (PySem.meetsExtT l its.toArray n b it2.toArray n2 od osl short (by rw [List.size_toArray]; omega) (by omega)) ⟨e, e2, ?_⟩
  refine ⟨.non, _, inv.lset (its' := its ++ it2) hl e (by simp) (r.append r2) ?_, rfl, k⟩
  rw [List.length_append]
  omega
end
end Lib

namespace Lib
open PySem L2 PySem.Spec PyProof.Rows
section
variable {X : Cx}
/-- a written tuple, its object known to have no dict -/
def tTupF (t : TA) : TE := fun σ H Q => t σ H fun xs H1 => xs.length ≤ sizeLine ∧ ∀ p o, H1 p = none → o.dict = none → Q (.ref p) (upd H1 p (.frz o (.tup xs)))
theorem pe_tupF {es : List Expr} {t : TA} {pos : Pos} {k : Nat} (h : PA X es t) : PE X (.Tuple es k pos) (tTupF t) := by
  refine ⟨fun pins s σ H Q inv q => ?_⟩
  refine wpAny_Tuple_spliced (thn (h.run pos pins s σ H _ inv q) fun us s1 ⟨xs, H1, i1, r, z, k⟩ => ⟨by rw [← r.length]; exact z, ?_⟩)
  have free : H1 s1.heap.objs.size = none := i1.hok.fresh (Nat.le_refl _)
  have at' : (s1.heap.push { cls := .type "tuple", data := .seq us.toArray }).get? s1.heap.objs.size = some { cls := .type "tuple", data := .seq us.toArray } := Heap.get?_push_size _ rfl
  refine ⟨.ref s1.heap.objs.size, upd H1 s1.heap.objs.size (.frz { cls := .type "tuple", data := .seq us.toArray } (.tup xs)), ?_, rfl, k _ _ free rfl⟩
  exact i1.laid (t' := s1.toks) (fun b u e => Heap.get?_push_of_some _ e) (Nat.le_refl _) ⟨at', z, us, r, ⟨_, at', rfl, _, rfl⟩⟩
/-- the pairs of a tuple of pairs -/
theorem pairs_at {pins : List (Addr × Obj)} {σ : L2.St} {H : Hp} {s : Shared} (inv : Inv X pins σ H s) : ∀ {ps : List Addr} {kvs : List (Key × V)}, Paired (fun p kv => SqT X.K H p [kV kv.1, kv.2]) ps kvs →
    ∃ (prs : List (Key × Value)) (pv : List (Value × Value)), KV kvs prs ∧ pv.length = ps.length ∧ prs.length = ps.length ∧
      ∀ (j : Nat) (k v : Value), pv[j]? = some (k, v) → ∃ (b : Addr) (kk : Key), ps[j]? = some b ∧ s.heap.IsTuple b #[k, v] ∧ prs[j]? = some (kk, v) ∧ keyIs kk k = true
  | _, _, .nil => ⟨[], [], .nil, rfl, rfl, fun j k v e => by simp at e⟩
  | _, _, .cons (a := p) (b := kv) h t => by
    obtain ⟨prs, pv, r, l1, l2, hp⟩ := pairs_at inv t
    obtain ⟨its, rv, ht, _⟩ := inv.tuple h
    obtain ⟨u, y, ei, ru, ry⟩ := vals2 rv
    subst ei
    refine ⟨(kv.1, y) :: prs, (u, y) :: pv, .cons ⟨rfl, ry⟩ r, by simp [l1], by simp [l2], fun j k v e => ?_⟩
    cases j with
    | zero =>
      have e' : (u, y) = (k, v) := Option.some.inj e
      cases e'
      exact ⟨p, kv.1, rfl, ht, rfl, kV_is (P := X.prog) (w := X.w) ru⟩
    | succ j =>
      obtain ⟨b, kk, e1, e2, e3, e4⟩ := hp j k v (by simpa using e)
      exact ⟨b, kk, by simpa using e1, e2, by simpa using e3, e4⟩
def rDictT (K : PySem.W.Frag) : List V → Hp → VK → Prop := fun xs H Q => ∃ (a : Addr) (ps : List Addr) (kvs : List (Key × V)) (o : Obj), xs = [.ref a] ∧ H a = some (.frz o (.tup (ps.map V.ref))) ∧ o.dict = none ∧
  Paired (fun p kv => SqT K H p [kV kv.1, kv.2]) ps kvs ∧ ∀ p, H p = none → Q (.ref p) (upd H p (.dK (mergeK [] kvs)))
theorem c_dictT (calm : X.calm = true) : CallR X (.type "dict") (rDictT X.K) := by
  intro pins s σ H xs us Q inv r q
  obtain ⟨a, ps, kvs, o, ex, ha, od, hp, k⟩ := q
  subst ex
  obtain ⟨u, eu, rx⟩ := vals1 r
  subst eu
  cases rx
  obtain ⟨ho, z, its, rv, o', ho', hc, n, hd⟩ := (show ObjOk X.prog X.w H s.heap a (.frz o (.tup (ps.map V.ref))) from inv.hok a _ ha)
  rw [ho] at ho'
  cases ho'
  have ei := refs_at rv
  subst ei
  rw [List.length_map] at z
  obtain ⟨prs, pv, rel, l1, l2, hpr⟩ := pairs_at inv hp
  have big : (s.heap.objs.size == sysModules) = false := beq_eq_false_iff_ne.mpr (Nat.ne_of_gt inv.big)
  refine PySem.call_dict_pairs (knd := mixKind X.prog X.w) (kvs := prs) (PySem.PairArg.tuple a (ps.map Value.ref).toArray (fun j => ps.getD j 0) pv) (inv.ok.hd calm) ⟨⟨o, n, ho, hc, od, hd⟩, by simp [l1], fun j k v e => ?_⟩ ⟨by omega, fun i key v e => ?_⟩ (by omega) fun h' tk hd' keep => ?_
  · obtain ⟨b, kk, e1, e2, e3, e4⟩ := hpr j k v e
    have eb : ps.getD j 0 = b := by rw [List.getD_eq_getElem?_getD, e1]; rfl
    exact ⟨by simp [e1, eb], .inl (by show s.heap.IsTuple (ps.getD j 0) #[k, v]; rw [eb]; exact e2)⟩
  · obtain ⟨b, kk, e1, e2, e3, e4⟩ := hpr i key v e
    exact ⟨kk, e3, e4⟩
  · have len : (mergeK [] kvs).length ≤ sizeLine := by
      refine Nat.le_trans (length_mergeK kvs []) ?_
      rw [List.length_nil, Nat.zero_add, rel.length, l2]
      exact z
    refine ⟨.ref s.heap.objs.size, upd H s.heap.objs.size (.dK (mergeK [] kvs)), ?_, rfl, k _ (inv.hok.fresh (Nat.le_refl _))⟩
    exact inv.laid (t' := tk) (fun b o e => keep b o (by simp) e) (Nat.le_refl _) (show ObjOk X.prog X.w _ _ _ (.dK (mergeK [] kvs)) from ⟨len, big, merged [] prs, KV.merge rel .nil, hd'⟩)
end
end Lib

namespace PySem
set_option maxHeartbeats 1000000 in
theorem meetsEnum1 {v : Value} {o : Obj} {H : Heap → Prop} (B : Begins v o H) :
    Meets (Builtin.«enumerate.__new__» ⟨[.type "enumerate", v], []⟩) (fun _ R s => H s.heap ∧
      R (.ok (.ret (.ref (s.heap.push o).objs.size))) { s with heap := (s.heap.push o).push { cls := .type "enumerate", data := .fields #[.none, .bool false, .ref s.heap.objs.size, rawInt 0, .none, .none] } }) :=
  .of_wp fun prog w A R s h => by
    obtain ⟨hp, g, d, tk, os⟩ := s
    obtain ⟨h1, h⟩ := h
    have hsub := sub_enumerate
    have begins : ∀ {A' : Around} {E : Value → Shared → Prop} {Q : Value → Shared → Prop}, Q (.ref hp.objs.size) ⟨hp.push o, g, d, tk, os⟩ →
        wpAny (model prog w) A' (pyIter v) Q E ⟨hp, g, d, tk, os⟩ := fun q => B.iter prog w _ _ ⟨hp, g, d, tk, os⟩ _ h1 q
    wp_walk using begins
    refine wpAny_stack_any fun st => wpAny_pure ?_
    split
    · rename_i c _ _ _ _ _
      cases (c == Value.type "enumerate") <;> (wp_walk using begins; exact ⟨_, rfl, h⟩)
    · wp_walk using begins
      exact ⟨_, rfl, h⟩
section
variable {prog : Program} {w : World} {A : Around} {E : Value → Shared → Prop} {s : Shared}
/-- enumerate(v): two new cells -/
theorem enumBegins1 {v : Value} {o : Obj} {H : Heap → Prop} {Q : Value → Shared → Prop} (B : Begins v o H) (h1 : H s.heap)
    (h : ∀ h', IsEnum h' (s.heap.objs.size + 1) s.heap.objs.size 0 .none → h'.get? s.heap.objs.size = some o →
      (∀ b u, s.heap.get? b = some u → h'.get? b = some u) → Q (.ref (s.heap.objs.size + 1)) { s with heap := h' }) :
    wpAny (model prog w) A (call (.type "enumerate") [v]) Q E s := by
  refine callType_new F.called_enumerate (by decide) (F.typeCall_enumerate_1 _) (F.newCall_enumerate_1 _) (fun obj => F.args_object_init_2 obj _) F.entry_enumerate_new (meetsEnum1 B) ⟨h1, ?_⟩
  have hz : (s.heap.push o).objs.size = s.heap.objs.size + 1 := Heap.size_push ..
  show _ ∧ _
  rw [hz]
  have he : IsEnum ((s.heap.push o).push { cls := .type "enumerate", data := .fields #[.none, .bool false, .ref s.heap.objs.size, rawInt 0, .none, .none] }) (s.heap.objs.size + 1) s.heap.objs.size 0 .none := by
    have q := Heap.get?_push_size (s.heap.push o) (o := { cls := .type "enumerate", data := .fields #[.none, .bool false, .ref s.heap.objs.size, rawInt 0, .none, .none] }) rfl
    rw [hz] at q
    exact q
  exact ⟨⟨_, he, rfl⟩, h _ he (Heap.get?_push_of_some _ (Heap.get?_push_size _ B.free)) fun b u x => Heap.get?_push_of_some _ (Heap.get?_push_of_some _ x)⟩
/-- its end, over a tuple -/
theorem enumEndT {e it l : Addr} {i : Nat} {items : Array Value} {old : Value} {Q : Option Value → Shared → Prop} (calm : A.handled = none) (he : IsEnum s.heap e it i old)
    (hit : s.heap.IsTupleIter it l i) (hl : s.heap.IsTuple l items) (hx : items[i]? = none) (k : ∀ h', Heap.ExtBut it s.heap h' → Q none { s with heap := h' }) :
    wpAny (model prog w) A (pyNext (.ref e)) Q E s := by
  have ty : s.TypeIs (.ref e) "enumerate" := ⟨_, he, rfl⟩
  unfold pyNext
  refine wpAny_bind (wpAny_attempt ?_)
  refine wpAny_callSpecial?_slot (name := Str.ofString "__next__") ty F.slot_enumerate_next ?_
  refine wpAny_call_entry F.slot_enumerate_next ty F.entry_enumerate_next ?_ (F.args_enumerate_next_1 _)
  show wpAny _ _ (field (.ref e) 2 >>= _) _ _ _
  refine wpAny_bind (wpAny_field he rfl (x := .ref it) rfl ?_)
  refine wpAny_bind (wpAny_nextOf_tuple_end calm hit hl hx fun h' x keeps st => ?_)
  obtain ⟨o, ho, hc⟩ := st
  refine wpAny_bind (wpAny_isInstance (T := "StopIteration") (b := true) ⟨o, ho, hc⟩ isSubtype_stop ?_)
  exact wpAny_pure (k _ keeps)
end
end PySem
namespace Lib
open PySem L2 PySem.Spec PyProof.Rows
/-- enumerate of the tuple at a: each item in a new pair -/
def IteT (K : PySem.W.Frag) (a : Addr) : It where
  go := fun i H => ∃ (xs : List V) (x : V), SqT K H a xs ∧ xs[i]? = some x
  yld := fun i H v H' => ∃ T x, v = .ref T ∧ H T = none ∧ H' = upd H T (.tup [.int (i : Nat), x]) ∧ ∀ xs, SqT K H a xs → xs[i]? = some x
  stop := fun i H => ∃ xs : List V, SqT K H a xs ∧ xs.length ≤ i
theorem turn_enumT {P : Program} {w : World} {K : PySem.W.Frag} {elts : List Expr} {kk : Nat} {tpos : Pos} (a e it : Addr) :
    Turn P w K (.Tuple elts kk tpos) (IteT K a) [e, it] e (fun i h => (∃ old, IsEnum h e it ((i : Nat) : Int) old) ∧ h.IsTupleIter it a i ∧ e ≠ it) where
  mem := List.mem_cons_self
  obj := fun i h st b hb => by
    obtain ⟨⟨old, he⟩, ⟨o, ho, hc, hd⟩, _⟩ := st
    rcases List.mem_cons.mp hb with z | z
    · rw [z]
      exact ⟨_, he, fun v q => nomatch q⟩
    · rw [List.mem_singleton.mp z]
      exact ⟨o, ho, fun v q => by rw [hd] at q; cases q⟩
  keep := fun i h h' st k => ⟨⟨st.1.choose, k e List.mem_cons_self _ st.1.choose_spec⟩, st.2.1.at fun o q => k it (by simp) o q, st.2.2⟩
  item := by
    intro X hP hw hK calm i pins s σ H E inv hf st hg
    subst hP
    subst hw
    subst hK
    obtain ⟨⟨old, he⟩, hit, hne⟩ := st
    obtain ⟨xs, x, hq, hx⟩ := hg
    obtain ⟨its, rv, p, hz⟩ := inv.tuple hq
    obtain ⟨u, hu, ru⟩ := rv.get hx
    have hel : e < s.heap.objs.size := Heap.lt_size he
    have hil : it < s.heap.objs.size := by
      obtain ⟨_, q, _⟩ := hit
      exact Heap.lt_size q
    have n1 : a ≠ it := by
      rintro rfl
      obtain ⟨o1, g1, c1, _⟩ := hit
      obtain ⟨o2, g2, c2, _⟩ := p
      rw [g1] at g2
      cases g2
      rw [c1] at c2
      exact absurd c2 (by decide)
    have n2 : e ∉ [it, a] := by
      intro m
      rcases List.mem_cons.mp m with z | z
      · exact hne z
      · have z := List.mem_singleton.mp z
        subst z
        obtain ⟨o2, g2, c2, _⟩ := p
        rw [show s.heap.get? e = _ from he] at g2
        cases g2
        exact absurd (Value.type.inj c2) (by decide)
    have hi : i < its.toArray.size := by
      have := (List.getElem?_eq_some_iff.mp hu).1
      simpa using this
    refine wpAny_pyNext_enum_itemD (Draws.tuple (A := X.A.in1) (inv.ok.hd calm) it a n1 its.toArray) he ⟨hit, p⟩ hi hne n2 fun y h' tk hy out st' hT hsz keeps => ?_
    have ey : y = u := by
      have : its.toArray[i]? = some u := by simpa using hu
      rw [this] at hy
      exact (Option.some.inj hy).symm
    subst ey
    refine ⟨_, rfl, wpAny_letOwnedTupleGo_enum (s := { s with heap := h', toks := tk + 1 }) out fun h'' he' sb => ?_⟩
    have hT2 : h''.get? s.heap.objs.size = some { cls := .type "tuple", data := .seq #[.int i tk, y] } := (sb.2 _ (Nat.ne_of_gt hel)).trans hT
    have new : ObjOk X.prog X.w (upd H s.heap.objs.size (.tup [.int (i : Nat), x])) h'' s.heap.objs.size (.tup [.int (i : Nat), x]) :=
      ⟨(by decide : 2 ≤ sizeLine), [.int i tk, y], .cons ⟨_, rfl⟩ (.cons ru .nil), ⟨_, hT2, rfl, _, rfl⟩⟩
    have i1 : Inv X pins σ (upd H s.heap.objs.size (.tup [.int (i : Nat), x])) { s with heap := h'', toks := tk + 1 } :=
      inv.turnedNew (ch := [e, it]) (fun b ob hb q => by
        have b1 : b ≠ e := fun z => hb (by simp [z])
        have b2 : b ≠ it := fun z => hb (by simp [z])
        exact (sb.2 b b1).trans (keeps b ob b1 b2 q)) hf (Nat.le_refl _) new
    refine ⟨.ref s.heap.objs.size, _, i1, rfl, ⟨_, x, rfl, inv.hok.fresh (Nat.le_refl _), rfl, fun ys hy => by rw [inv.tuple_inj hy hq]; exact hx⟩, ⟨⟨y, ?_⟩, st'.1.at fun o q => (sb.2 it (Ne.symm hne)).trans q, hne⟩, fun b hb => ?_⟩
    · have e1 : ((i + 1 : Nat) : Int) = (i : Int) + 1 := by omega
      rw [e1]
      exact he'
    · have hb' : b < s.heap.objs.size := by
        rcases List.mem_cons.mp hb with z | z
        · rw [z]
          exact hel
        · rw [List.mem_singleton.mp z]
          exact hil
      rw [upd_ne (Nat.ne_of_lt hb')]
      exact (hf b hb).1
  done := by
    intro X hP hw hK calm i pins s σ H E inv hf st hg
    subst hP
    subst hw
    subst hK
    obtain ⟨⟨old, he⟩, hit, hne⟩ := st
    obtain ⟨xs, hq, hx⟩ := hg
    obtain ⟨its, rv, p, hz⟩ := inv.tuple hq
    obtain ⟨f0, f1, f2, f3, f4, f5⟩ := hf it (by simp)
    have hl := rv.length
    have n1 : a ≠ it := by
      rintro rfl
      obtain ⟨o1, g1, c1, _⟩ := hit
      obtain ⟨o2, g2, c2, _⟩ := p
      rw [g1] at g2
      cases g2
      rw [c1] at c2
      exact absurd c2 (by decide)
    refine enumEndT (inv.ok.hd calm) he hit p (by simp; omega) fun h' eb => ⟨rfl, inv.turned (t' := s.toks) (fun b o hb q => eb b o hb q) f0 f1 f3 f4 f5⟩
  self := fun A i s Q E st h => by
    obtain ⟨⟨_, he⟩, _⟩ := st
    exact wpAny_pyIter_enum he h
def iEnumT (K : PySem.W.Frag) (ta : TA) : TI := fun σ H R => ta σ H fun vs H1 => ∃ a xs, vs = [.ref a] ∧ SqT K H1 a xs ∧ R (IteT K a) H1
theorem pi_enumT {X : Cx} {e : Expr} {ta : TA} {p pos tpos : Pos} {elts : List Expr} {kk : Nat} (hg : Gl X "enumerate") (hm : X.mg "enumerate" = none) (ha : PA X [e] ta)
    (hs : starEach [e] X.env = [(false, eval e X.env)] := by rfl) : PI X (.Tuple elts kk tpos) (.Call (.Name "enumerate" p) [e] [] pos) (iEnumT X.K ta) := by
  refine ⟨fun pins s σ H R inv h => ?_⟩
  refine Call_ (ld_blt inv hg hm boot_enumerate (PyProof.Rows.callWith_type1 (thn (ha.run pos pins s σ H _ inv h) fun us s1 q1 => ?_) hs rfl))
  obtain ⟨vs, H1, i1, r1, a, xs, ex, hq, q⟩ := q1
  subst ex
  obtain ⟨u, eu, r⟩ := vals1 r1
  subst eu
  cases r
  obtain ⟨its, rv, p', hz⟩ := i1.tuple hq
  refine enumBegins1 (begins_tuple a its.toArray) p' fun h' he hit hk => wpAny_pyIter_enum he ?_
  have i2 : Inv X pins σ H1 { s1 with heap := h' } := i1.kept (t' := s1.toks) hk
  refine ⟨s1.heap.objs.size + 1, [s1.heap.objs.size + 1, s1.heap.objs.size], _, _, H1, rfl, i2, turn_enumT a (s1.heap.objs.size + 1) s1.heap.objs.size, ⟨⟨.none, he⟩, ⟨_, hit, rfl, rfl⟩, Nat.succ_ne_self _⟩, fun b hb => ?_, q⟩
  have hle : s1.heap.objs.size ≤ b := by
    rcases List.mem_cons.mp hb with z | z
    · rw [z]
      exact Nat.le_succ _
    · rw [List.mem_singleton.mp z]
      exact Nat.le_refl _
  exact i1.fpOk hle (i1.hok.fresh hle)
end Lib

/-! set(xs) of a list of ints -/
namespace PySem
open PyProof.Rows L2
/-- a new set's object -/
abbrev nso (w : World) : Obj := { cls := .type "set", dict := none, data := .set #[] 0 (.fresh 0 0 (!w.params.followText "set-order")) }
section
variable {P : Program} {w : World} {A : Around} {E : Value → Shared → Prop} {s : Shared}
set_option maxHeartbeats 3200000 in
theorem callSetL {l : Addr} {items : Array Value} (ns : List Int) {Q : Value → Shared → Prop} (calm : A.handled = none) (hl : s.heap.IsList l items) (hit : IntsAre items.toList ns) (few : ns.length + 1 < scanBound)
    (k : ∀ (h' : Heap) (tk c : Nat), SetR w h' s.heap.objs.size (fun j => decide (j ∈ ns)) c → c ≤ ns.length → (∀ b o, s.heap.get? b = some o → h'.get? b = some o) →
      Q (.ref s.heap.objs.size) { s with heap := h', toks := tk }) :
    wpAny (model P w) A (call (.type "set") [.ref l]) Q E s := by
  have nz : items.size = ns.length := by
    have q := IntsAre.length hit
    simpa using q
  obtain ⟨c, tl, hmro⟩ := PySem.F.called_set.mro
  have hmade := PySem.F.called_set.made
  have hsub := PySem.F.called_set.sub
  refine wpAny_call (codeAny_of_tree ?_)
  show wpAny _ _ (callAny (.type "set") _) _ _ _
  have quiet := Code.quiet_builtin (id := "type.__call__") ⟨[.type "set", .ref l], []⟩ (by decide +kernel)
  refine wpAny_pure ⟨quiet, codeAny_builtin PySem.F.entry_type_call ?_⟩
  have wt := weight_type_call_type "set" [.ref l] []
  rw [Around.under_plain wt rfl]
  have h1 := PySem.F.called_set.notType
  have h2 := PySem.F.called_set.canCreate
  have hct := PySem.F.typeCall_set_1 (.ref l)
  repeat (any_goals (first | assumption | wp_step))
  let Made : Value → Shared → Prop := fun obj s₁ => obj = .ref s.heap.objs.size ∧ s₁ = { s with heap := s.heap.push (nso w) }
  refine codeAny_mono (code_set_led1 (.ref l) (E := E) (Q₁ := Made) ⟨rfl, rfl⟩) fun r s₁ hr => ?_
  cases r with
  | error e => exact hr
  | ok fl =>
    cases fl with
    | ret obj =>
      obtain ⟨rfl, rfl⟩ := hr
      have at0 : (s.heap.push (nso w)).get? s.heap.objs.size = some (nso w) := Heap.get?_push_size _ rfl
      have ty0 : Shared.TypeIs { s with heap := s.heap.push (nso w) } (.ref s.heap.objs.size) "set" := ⟨_, at0, rfl⟩
      have hli := PySem.F.called_set.init.lookup
      have hbi := PySem.F.called_set.init.bind (.ref s.heap.objs.size)
      repeat (any_goals (first | assumption | wp_step))
      refine codeAny_mono (codeAny_call_builtin (R := wants (fun r s₂ => r = .none ∧ ∃ h' tk c, s₂ = { s with heap := h', toks := tk } ∧
          SetR w h' s.heap.objs.size (fun j => decide (j ∈ ns)) c ∧ c ≤ ns.length ∧
          (∀ b o, s.heap.get? b = some o → h'.get? b = some o)) E) PySem.F.called_set.init.plain PySem.F.entry_set_init (check_set_init_1 ty0 ?_)) fun r₂ s₂ hr₂ => ?_
      · obtain ⟨⟨ocls, odict, odata, oslots⟩, hol, hcl, nl, hdl⟩ := hl
        simp only at hcl hdl
        subst hcl
        subst hdl
        have hol' : (s.heap.push (nso w)).get? l = some { cls := .type "list", dict := odict, data := .seq items nl, slots := oslots } := Heap.get?_push_of_some _ hol
        have hsls := PySem.F.sub_list_set
        have hslf := PySem.F.sub_list_frozenset
        have hne : (Value.type "list" == Value.type "dict") = false := by decide
        have hl1 : (s.heap.push (nso w)).IsList l items := ⟨_, hol', rfl, nl, rfl⟩
        unfold Builtin.«set.__init__» noKeywords Builtin.Frozenset.updateFrom
        generalize hPI : pyIter = PI
        wp_walk
        subst hPI
        refine wpAny_pyIter_list hl1 ?_
        refine wpAny_bind (wpAny_runValue ?_)
        have lt : l < s.heap.objs.size := Heap.lt_size hol
        have sz : (s.heap.push (nso w)).objs.size = s.heap.objs.size + 1 := Heap.size_push ..
        have calm3 : A.in1.in1.in1.handled = none := by simp [calm]
        have nI : l ≠ (s.heap.push (nso w)).objs.size := by
          rw [sz]
          exact Nat.ne_of_lt (Nat.lt_succ_of_lt lt)
        have off : s.heap.objs.size ∉ [(s.heap.push (nso w)).objs.size, l] := by
          rw [sz]
          intro m
          rcases List.mem_cons.mp m with z | z
          · exact absurd z (Nat.ne_of_lt (Nat.lt_succ_self _))
          · exact absurd (List.mem_singleton.mp z) (Nat.ne_of_gt lt)
        have val : ∀ (i : Nat) (v : Value), items[i]? = some v → ∃ k t, ns[i]? = some k ∧ v = .int k t := fun i v hv => by
          have hi : i < ns.length := by
            rw [← nz]
            exact (Array.getElem?_eq_some_iff.mp hv).1
          obtain ⟨t, e⟩ := PyProof.Rows.IntsAre.int_at hit i v (by rw [Array.getElem?_toList]; exact hv)
          exact ⟨ns[i], t, List.getElem?_eq_getElem hi, by rw [e, List.getD_eq_getElem?_getD, List.getElem?_eq_getElem hi]; rfl⟩
        refine set_update_ints ((Walks.list calm3 _ l nI items).toS) s.heap.objs.size off ns nz few val (items.size - 0) 0 _ (by omega) (Nat.zero_le _) ⟨⟨_, Heap.get?_push_size _ rfl, rfl, rfl⟩, (hl1.push _)⟩ ?hS0 ?hR
        case hS0 => exact ⟨0, Nat.le_refl 0, setR_new_at (Heap.get?_push_of_some _ at0)⟩
        case hR =>
          intro s' c' hm hc' hS'
          obtain ⟨h', g2, d', tk', os'⟩ := s'
          have eg : g2 = s.gens := hm.gens
          have ed : d' = s.drawn := hm.drawn
          have eo : os' = s.os := hm.os
          subst eg
          subst ed
          subst eo
          show wpAny _ _ _ _ _ _
          refine wpAny_pure ?_
          show wpAny _ _ (ret Value.none) _ _ _
          rw [nz] at hc'
          refine wpAny_pure ⟨rfl, h', tk', c', rfl, hS', hc', fun b o e => ?_⟩
          have b0 : b < s.heap.objs.size := Heap.lt_size e
          refine hm.heap b o (fun m => ?_) (Heap.get?_push_of_some _ (Heap.get?_push_of_some _ e))
          rcases List.mem_cons.mp m with z | z
          · exact absurd z (Nat.ne_of_lt b0)
          · have z := List.mem_singleton.mp z
            rw [sz] at z
            exact absurd z (Nat.ne_of_lt (Nat.lt_succ_of_lt b0))
      · cases r₂ with
        | error e => exact hr₂
        | ok fl₂ =>
          cases fl₂ with
          | ret r =>
            obtain ⟨rfl, h', tk, c', rfl, hS', hc', hk'⟩ := hr₂
            repeat (any_goals (first | assumption | wp_step))
            exact k _ _ _ hS' hc' hk'
          | _ => exact hr₂.elim
    | _ => exact hr.elim
end
end PySem
namespace Lib
open PySem L2 PySem.Spec PyProof.Rows
section
variable {X : Cx}
def rSetX (K : PySem.W.Frag) (w : World) : List V → Hp → VK → Prop := fun vs H Q => ∃ (l : Addr) (ns : List Int), vs = [V.ref l] ∧ SqL K H l (ns.map V.int) ∧ ns.length ≤ 1000 ∧
  ∀ p c, H p = none → c ≤ ns.length → Q (.ref p) (upd H p (SetO w p (fun j => decide (j ∈ ns)) c))
theorem c_set (calm : X.calm = true) : CallR X (.type "set") (rSetX X.K X.w) := by
  intro pins s σ H vs us Q inv r q
  obtain ⟨l, ns, e, hs, few, k⟩ := q
  subst e
  obtain ⟨its, rv, pl, hz⟩ := inv.list hs
  rw [Vals.ref1 r]
  refine callSetL ns (inv.ok.hd calm) pl.isList rv.ints (by unfold scanBound; omega) fun h' tk c R hc keep => ?_
  exact ⟨.ref _, upd H s.heap.objs.size (SetO X.w s.heap.objs.size (fun j => decide (j ∈ ns)) c), inv.laid (t' := tk) keep (Nat.le_refl _) (setO_new R), rfl, k _ _ (inv.hok.fresh (Nat.le_refl _)) hc⟩
end
end Lib

/-! data as trees (ptup: a tuple whose object has no dict), what reads as them, and how readings give them -/
namespace Lib
open PySem L2 PySem.Spec PyProof.Rows Evl
inductive Dat where
  | non | bl (b : Bool) | int (i : Int) | str (s : Str) | lst (ds : List Dat) | tup (ds : List Dat) | ptup (ds : List Dat)
mutual
inductive Rp (K : PySem.W.Frag) (H : Hp) : V → Dat → Prop
  | non : Rp K H .non .non
  | bl (b : Bool) : Rp K H (.bl b) (.bl b)
  | int (i : Int) : Rp K H (.int i) (.int i)
  | str (x : Str) : Rp K H (.str x) (.str x)
  | lst {a : Addr} {xs : List V} {ds : List Dat} : H a = some (.lst xs) → RpAll K H xs ds → Rp K H (.ref a) (.lst ds)
  | tup {a : Addr} {xs : List V} {ds : List Dat} : SqT K H a xs → RpAll K H xs ds → Rp K H (.ref a) (.tup ds)
  | ptup {a : Addr} {o : Obj} {xs : List V} {ds : List Dat} : H a = some (.frz o (.tup xs)) → o.dict = none → RpAll K H xs ds → Rp K H (.ref a) (.ptup ds)
inductive RpAll (K : PySem.W.Frag) (H : Hp) : List V → List Dat → Prop
  | nil : RpAll K H [] []
  | cons {v : V} {vs : List V} {d : Dat} {ds : List Dat} : Rp K H v d → RpAll K H vs ds → RpAll K H (v :: vs) (d :: ds)
end
mutual
def Dat.out : Dat → PyData
  | .non => .none
  | .bl b => .bool b
  | .int i => .int i
  | .str s => .str s
  | .lst ds => .list (outAll ds)
  | .tup ds => .tuple (outAll ds)
  | .ptup ds => .tuple (outAll ds)
def outAll : List Dat → List PyData
  | [] => []
  | d :: ds => d.out :: outAll ds
end
theorem outAll_eq : ∀ ds : List Dat, outAll ds = ds.map Dat.out
  | [] => by rw [outAll]; rfl
  | d :: ds => by rw [outAll, outAll_eq ds]; rfl
mutual
/-- no list within -/
def Dat.still : Dat → Bool
  | .lst _ => false
  | .tup ds => stillAll ds
  | .ptup ds => stillAll ds
  | _ => true
def stillAll : List Dat → Bool
  | [] => true
  | d :: ds => d.still && stillAll ds
end
section
variable {K : PySem.W.Frag} {H H' : Hp}
mutual
theorem Rp.dp : ∀ (d : Dat) (v : V), Rp K H v d → Dp K H v d.out
  | .non, _, r => by cases r; rw [Dat.out]; exact .non
  | .bl _, _, r => by cases r; rw [Dat.out]; exact .bl _
  | .int _, _, r => by cases r; rw [Dat.out]; exact .int _
  | .str _, _, r => by cases r; rw [Dat.out]; exact .str _
  | .lst ds, _, r => by
    cases r with
    | lst h t =>
      rw [Dat.out]
      exact .lst (SqL.of h) (RpAll.dp ds _ t)
  | .tup ds, _, r => by
    cases r with
    | tup h t =>
      rw [Dat.out]
      exact .tup h (RpAll.dp ds _ t)
  | .ptup ds, _, r => by
    cases r with
    | ptup h _ t =>
      rw [Dat.out]
      exact .tup (.inl (.inr ⟨_, h⟩)) (RpAll.dp ds _ t)
theorem RpAll.dp : ∀ (ds : List Dat) (vs : List V), RpAll K H vs ds → DpAll K H vs (outAll ds)
  | [], _, r => by cases r; rw [outAll]; exact .nil
  | d :: ds, _, r => by
    cases r with
    | cons h t =>
      rw [outAll]
      exact .cons (Rp.dp d _ h) (RpAll.dp ds _ t)
end
mutual
theorem Rp.exD (e : Ex H H') : ∀ (d : Dat) (v : V), Rp K H v d → Rp K H' v d
  | .non, _, r => by cases r; exact .non
  | .bl _, _, r => by cases r; exact .bl _
  | .int _, _, r => by cases r; exact .int _
  | .str _, _, r => by cases r; exact .str _
  | .lst ds, _, r => by
    cases r with
    | lst h t => exact .lst (e _ _ h) (RpAll.exD e ds _ t)
  | .tup ds, _, r => by
    cases r with
    | tup h t => exact .tup (ex_t e h) (RpAll.exD e ds _ t)
  | .ptup ds, _, r => by
    cases r with
    | ptup h o t => exact .ptup (e _ _ h) o (RpAll.exD e ds _ t)
theorem RpAll.exD (e : Ex H H') : ∀ (ds : List Dat) (vs : List V), RpAll K H vs ds → RpAll K H' vs ds
  | [], _, r => by cases r; exact .nil
  | d :: ds, _, r => by
    cases r with
    | cons h t => exact .cons (Rp.exD e d _ h) (RpAll.exD e ds _ t)
end
theorem Rp.ex {d : Dat} {v : V} (r : Rp K H v d) (e : Ex H H') : Rp K H' v d := Rp.exD e d v r
theorem RpAll.ex {ds : List Dat} {vs : List V} (r : RpAll K H vs ds) (e : Ex H H') : RpAll K H' vs ds := RpAll.exD e ds vs r
/-- all but the list at t stays -/
def Chg (t : Addr) (H H' : Hp) : Prop := ∀ a o, H a = some o → a ≠ t → H' a = some o
theorem Chg.refl {t : Addr} (H : Hp) : Chg t H H := fun _ _ h _ => h
theorem Chg.trans {t : Addr} {H H1 H2 : Hp} (a : Chg t H H1) (b : Chg t H1 H2) : Chg t H H2 := fun x o h n => b x o (a x o h n) n
theorem Chg.of {t : Addr} (e : Ex H H') : Chg t H H' := fun a o h _ => e a o h
theorem sqt_chg {t : Addr} {ys : List V} (ht : H t = some (.lst ys)) (e : Chg t H H') {a : Addr} {xs : List V} (h : SqT K H a xs) : SqT K H' a xs := by
  rcases h with h | h
  · rcases h with h | ⟨o, h⟩
    · exact .inl (.inl (e _ _ h fun z => by subst z; rw [ht] at h; cases h))
    · exact .inl (.inr ⟨o, e _ _ h fun z => by subst z; rw [ht] at h; cases h⟩)
  · exact .inr h
mutual
theorem Rp.chgD {t : Addr} {ys : List V} (ht : H t = some (.lst ys)) (e : Chg t H H') : ∀ (d : Dat) (v : V), d.still = true → Rp K H v d → Rp K H' v d
  | .non, _, _, r => by cases r; exact .non
  | .bl _, _, _, r => by cases r; exact .bl _
  | .int _, _, _, r => by cases r; exact .int _
  | .str _, _, _, r => by cases r; exact .str _
  | .lst ds, _, s, r => by rw [Dat.still] at s; cases s
  | .tup ds, _, s, r => by
    rw [Dat.still] at s
    cases r with
    | tup h u => exact .tup (sqt_chg ht e h) (RpAll.chgD ht e ds _ s u)
  | .ptup ds, _, s, r => by
    rw [Dat.still] at s
    cases r with
    | ptup h o u => exact .ptup (e _ _ h fun z => by subst z; rw [ht] at h; cases h) o (RpAll.chgD ht e ds _ s u)
theorem RpAll.chgD {t : Addr} {ys : List V} (ht : H t = some (.lst ys)) (e : Chg t H H') : ∀ (ds : List Dat) (vs : List V), stillAll ds = true → RpAll K H vs ds → RpAll K H' vs ds
  | [], _, _, r => by cases r; exact .nil
  | d :: ds, _, s, r => by
    rw [stillAll, Bool.and_eq_true] at s
    cases r with
    | cons h u => exact .cons (Rp.chgD ht e d _ s.1 h) (RpAll.chgD ht e ds _ s.2 u)
end
theorem Rp.chg {t : Addr} {ys : List V} {d : Dat} {v : V} (r : Rp K H v d) (ht : H t = some (.lst ys)) (e : Chg t H H') (s : d.still = true := by rfl) : Rp K H' v d := Rp.chgD ht e d v s r
theorem RpAll.chg {t : Addr} {ys : List V} {ds : List Dat} {vs : List V} (r : RpAll K H vs ds) (ht : H t = some (.lst ys)) (e : Chg t H H') (s : stillAll ds = true := by rfl) : RpAll K H' vs ds := RpAll.chgD ht e ds vs s r
/-! ### reading back -/
theorem rp_non {v : V} (r : Rp K H v .non) : v = .non := by cases r; rfl
theorem rp_bl {v : V} {b : Bool} (r : Rp K H v (.bl b)) : v = .bl b := by cases r; rfl
theorem rp_int {v : V} {i : Int} (r : Rp K H v (.int i)) : v = .int i := by cases r; rfl
theorem rp_str {v : V} {x : Str} (r : Rp K H v (.str x)) : v = .str x := by cases r; rfl
/-- d is a tuple of ds -/
def IsT (d : Dat) (ds : List Dat) : Prop := d = .tup ds ∨ d = .ptup ds
/-- .. or a list -/
def IsS (d : Dat) (ds : List Dat) : Prop := IsT d ds ∨ d = .lst ds
theorem rp_T {v : V} {d : Dat} {ds : List Dat} (r : Rp K H v d) (h : IsT d ds) : ∃ a xs, v = .ref a ∧ SqT K H a xs ∧ RpAll K H xs ds := by
  rcases h with h | h
  · subst h
    cases r with
    | tup h t => exact ⟨_, _, rfl, h, t⟩
  · subst h
    cases r with
    | ptup h o t => exact ⟨_, _, rfl, .inl (.inr ⟨_, h⟩), t⟩
theorem rp_L {v : V} {ds : List Dat} (r : Rp K H v (.lst ds)) : ∃ a xs, v = .ref a ∧ H a = some (.lst xs) ∧ RpAll K H xs ds := by
  cases r with
  | lst h t => exact ⟨_, _, rfl, h, t⟩
theorem rp_S {v : V} {d : Dat} {ds : List Dat} (r : Rp K H v d) (h : IsS d ds) : ∃ a xs, v = .ref a ∧ (SqL K H a xs ∨ SqT K H a xs) ∧ RpAll K H xs ds := by
  rcases h with h | h
  · obtain ⟨a, xs, e, h1, h2⟩ := rp_T r h
    exact ⟨a, xs, e, .inr h1, h2⟩
  · subst h
    obtain ⟨a, xs, e, h1, h2⟩ := rp_L r
    exact ⟨a, xs, e, .inl (SqL.of h1), h2⟩
theorem rpAll_len : ∀ {xs : List V} {ds : List Dat}, RpAll K H xs ds → xs.length = ds.length := by
  intro xs ds
  induction xs generalizing ds with
  | nil => intro r; cases r; rfl
  | cons x xs ih =>
    intro r
    cases r with
    | cons h t => exact congrArg (· + 1) (ih t)
theorem rpAll_get : ∀ {xs : List V} {ds : List Dat} {i : Nat} {x : V}, RpAll K H xs ds → xs[i]? = some x → ∃ d, ds[i]? = some d ∧ Rp K H x d := by
  intro xs ds
  induction xs generalizing ds with
  | nil => intro i x r e; simp at e
  | cons y xs ih =>
    intro i x r e
    cases r with
    | cons h t =>
      cases i with
      | zero => simp at e; subst e; exact ⟨_, rfl, h⟩
      | succ i =>
        obtain ⟨d, e1, e2⟩ := ih t (i := i) (x := x) (by simpa using e)
        exact ⟨d, by simpa using e1, e2⟩
theorem rpAll_at : ∀ {xs : List V} {ds : List Dat} {i : Nat} {d : Dat}, RpAll K H xs ds → ds[i]? = some d → ∃ x, xs[i]? = some x ∧ Rp K H x d := by
  intro xs ds i d r e
  have hi : i < xs.length := by
    rw [rpAll_len r]
    exact (List.getElem?_eq_some_iff.mp e).1
  obtain ⟨d', e1, e2⟩ := rpAll_get (i := i) (x := xs[i]) r (List.getElem?_eq_getElem hi)
  rw [e] at e1
  cases e1
  exact ⟨_, List.getElem?_eq_getElem hi, e2⟩
theorem rpAll_app : ∀ {xs ys : List V} {ds es : List Dat}, RpAll K H xs ds → RpAll K H ys es → RpAll K H (xs ++ ys) (ds ++ es) := by
  intro xs ys ds es
  induction xs generalizing ds with
  | nil => intro r t; cases r; exact t
  | cons y xs ih =>
    intro r t
    cases r with
    | cons h u => exact .cons h (ih u t)
theorem rpAll_drop : ∀ (n : Nat) {xs : List V} {ds : List Dat}, RpAll K H xs ds → RpAll K H (xs.drop n) (ds.drop n) := by
  intro n xs ds
  induction xs generalizing ds n with
  | nil => intro r; cases r; simp; exact .nil
  | cons y xs ih =>
    intro r
    cases r with
    | cons h u =>
      cases n with
      | zero => exact .cons h u
      | succ n => exact ih n u
theorem rpAll_take : ∀ (n : Nat) {xs : List V} {ds : List Dat}, RpAll K H xs ds → RpAll K H (xs.take n) (ds.take n) := by
  intro n xs ds
  induction xs generalizing ds n with
  | nil => intro r; cases r; simp; exact .nil
  | cons y xs ih =>
    intro r
    cases r with
    | cons h u =>
      cases n with
      | zero => exact .nil
      | succ n => exact .cons h (ih n u)
theorem rpAll_ints : ∀ {xs : List V} {ns : List Int}, RpAll K H xs (ns.map .int) → xs = ns.map V.int := by
  intro xs ns
  induction ns generalizing xs with
  | nil => intro r; cases r; rfl
  | cons n ns ih =>
    intro r
    cases r with
    | cons h t => rw [rp_int h, ih t]; rfl
theorem ints_rpAll : ∀ (ns : List Int), RpAll K H (ns.map V.int) (ns.map .int)
  | [] => .nil
  | n :: ns => .cons (.int n) (ints_rpAll ns)
theorem rpAll_strs : ∀ {xs : List V} {ss : List Str}, RpAll K H xs (ss.map .str) → xs = ss.map V.str := by
  intro xs ss
  induction ss generalizing xs with
  | nil => intro r; cases r; rfl
  | cons n ns ih =>
    intro r
    cases r with
    | cons h t => rw [rp_str h, ih t]; rfl
theorem strs_rpAll : ∀ (ss : List Str), RpAll K H (ss.map V.str) (ss.map .str)
  | [] => .nil
  | n :: ns => .cons (.str n) (strs_rpAll ns)
theorem rpAll_bls : ∀ {xs : List V} {bs : List Bool}, RpAll K H xs (bs.map .bl) → xs = bs.map V.bl := by
  intro xs ss
  induction ss generalizing xs with
  | nil => intro r; cases r; rfl
  | cons n ns ih =>
    intro r
    cases r with
    | cons h t => rw [rp_bl h, ih t]; rfl
end
/-! ### sorted of a list of data -/
def leD (x y : Dat) : Bool := PySem.W.dataLe false Dat.out x y
theorem leD_total : PySem.W.TotalLe leD := by
  show PySem.W.TotalLe (PySem.W.sortLe (PyProof.Rows.listOrd PyProof.Rows.itemOrd) false fun b : Dat => PySem.W.keyToks b.out)
  exact PySem.W.sortLe_total _ _ _
section
variable {X : Cx} {pins : List (Addr × Obj)} {σ : L2.St} {H : Hp} {s : Shared}
/-- a value and the datum that it reads as -/
def Both (H : Hp) (K : PySem.W.Frag) (u : Value) (p : V × Dat) : Prop := RelV p.1 u ∧ Rp K H p.1 p.2
theorem each_both {K : PySem.W.Frag} : ∀ (xs : List V) (ds : List Dat) (us : List Value), RpAll K H xs ds → Vals xs us → PySem.W.EachIs (Both H K) us (xs.zip ds)
  | [], _, _, p, r => by
    cases p
    cases r
    exact .nil
  | x :: xs, _, _, p, r => by
    cases p with
    | cons a b =>
      cases r with
      | cons r t => exact .cons ⟨r, a⟩ (each_both xs _ _ b t)
theorem both_vals {K : PySem.W.Frag} : ∀ (us : List Value) (ps : List (V × Dat)), PySem.W.EachIs (Both H K) us ps → Vals (ps.map (·.1)) us ∧ RpAll K H (ps.map (·.1)) (ps.map (·.2))
  | _, [], h => by
    cases h
    exact ⟨.nil, .nil⟩
  | _, p :: ps, h => by
    cases h with
    | cons h t => exact ⟨.cons h.1 (both_vals _ ps t).1, .cons h.2 (both_vals _ ps t).2⟩
theorem zip_snd : ∀ {xs : List V} {ds : List Dat}, xs.length = ds.length → (xs.zip ds).map (·.2) = ds
  | [], [], _ => rfl
  | _ :: _, _ :: _, h => congrArg (_ :: ·) (zip_snd (Nat.succ.inj h))
def rSortedX (K : PySem.W.Frag) : List V → Hp → VK → Prop := fun vs H Q => ∃ (a : Addr) (xs : List V) (ds : List Dat), vs = [V.ref a] ∧ SqL K H a xs ∧ RpAll K H xs ds ∧
  PySem.W.AllAlike (ds.map Dat.out) ∧ PySem.W.Sortable (ds.map Dat.out) ∧ (∀ d, d ∈ ds → d.out.depth ≤ 10) ∧ xs.length ≤ 1000 ∧
  ∀ (ys : List V) (es : List Dat) (p : Addr), RpAll K H ys es → es.Perm ds → es.Pairwise (fun a b => leD a b = true) → H p = none → Q (.ref p) (upd H p (.lst ys))
theorem both_reads {K : PySem.W.Frag} (hK : K = X.K) (inv : Inv X pins σ H s) {u : Value} {p : V × Dat} (b : Both H K u p) : ∃ l, Reads s.heap u p.2.out l := by
  subst hK
  exact Dp.reads inv p.2.out p.1 u (Rp.dp _ _ b.2) b.1
/-- the order of such pairs -/
abbrev ordP : V × Dat → PyData := fun p => p.2.out
theorem dp_sorted (l : List (V × Dat)) : ((l.mergeSort (PySem.W.dataLe false ordP)).map Prod.snd).Pairwise fun a b => leD a b = true := by
  rw [List.pairwise_map]
  have t : PySem.W.TotalLe (PySem.W.dataLe false ordP) := PySem.W.sortLe_total (PyProof.Rows.listOrd PyProof.Rows.itemOrd) false fun b : V × Dat => PySem.W.keyToks b.2.out
  exact PySem.W.sort_pairwise t l
theorem c_sortedD (room : X.A.units + 64 < cLine) : CallR X (.builtin "sorted") (rSortedX X.K) := by
  intro pins s σ H vs us Q inv r q
  obtain ⟨a, xs, ds, e, hs, hd, al, so, dep, len, k⟩ := q
  subst e
  obtain ⟨its, rv, hl, hz⟩ := inv.list hs
  rw [Vals.ref1 r]
  have nl := rpAll_len hd
  have zs : (xs.zip ds).map (·.2) = ds := zip_snd nl
  have zo : (xs.zip ds).map ordP = ds.map Dat.out := by
    show (xs.zip ds).map (fun p => Dat.out p.2) = _
    rw [← zs, List.map_map, zs]
    rfl
  have eb := each_both xs ds its hd rv
  have er := eb.mono fun u p b => both_reads (X := X) rfl inv b
  have lz : (xs.zip ds).length = xs.length := by rw [List.length_zip, nl, Nat.min_self]
  have big : (1000 : Nat) ≤ sizeLine := by decide
  refine PySem.W.sorted_data (enc := ordP) (R := Both H X.K) (bs := xs.zip ds) hl.isList eb er (by rw [zo]; exact al) (by rw [zo]; exact so) (by omega) (fun b hb => ?_) fun out lo eo => ?_
  · have m : b.2 ∈ ds := by
      rw [← zs]
      exact List.mem_map.mpr ⟨b, hb, rfl⟩
    have q := dep _ m
    show X.A.units + 2 + b.2.out.depth < cLine
    omega
  · obtain ⟨bv, bd⟩ := both_vals out _ eo
    obtain ⟨ep, at'⟩ := PyProof.Rows.sortedAll_at s.heap its out.toArray
    have perm := List.mergeSort_perm (xs.zip ds) (PySem.W.dataLe false ordP)
    have small : (((xs.zip ds).mergeSort (PySem.W.dataLe false ordP)).map (·.1)).length ≤ sizeLine := by
      rw [List.length_map, List.length_mergeSort]
      omega
    refine ⟨.ref _, upd H (s.heap.objs.size + 1) (.lst (((xs.zip ds).mergeSort (PySem.W.dataLe false ordP)).map (·.1))), ?_, rfl, ?_⟩
    · exact inv.laid (t' := s.toks) (fun _ _ => PyProof.Rows.sortedAll_old) (Nat.le_succ _) ⟨small, out, ep, bv, at'⟩
    · refine k _ _ _ bd ?_ (dp_sorted _) (inv.hok.fresh (Nat.le_succ _))
      have q := perm.map Prod.snd
      rw [zs] at q
      exact q
end
end Lib

/-! what a reading gives, as data -/
namespace Lib
open PySem L2 PySem.Spec PyProof.Rows Evl
/-- te gives something that reads as d, and only adds to the heap -/
def Evd (K : PySem.W.Frag) (te : TE) (σ : L2.St) (H : Hp) (d : Dat) : Prop := ∀ H1, Ex H H1 → ∀ Q : VK, (∀ v H2, Ex H1 H2 → Rp K H2 v d → Q v H2) → te σ H1 Q
def Frs (H : Hp) (v : V) (d : Dat) : Prop := ∀ ds, d = .lst ds → ∃ p, v = .ref p ∧ H p = none
/-- .. a list is a new one -/
def Evf (K : PySem.W.Frag) (te : TE) (σ : L2.St) (H : Hp) (d : Dat) : Prop := ∀ H1, Ex H H1 → ∀ Q : VK, (∀ v H2, Ex H1 H2 → Rp K H2 v d → Frs H1 v d → Q v H2) → te σ H1 Q
def EvdA (K : PySem.W.Frag) (ta : TA) (σ : L2.St) (H : Hp) (ds : List Dat) : Prop := ∀ H1, Ex H H1 → ∀ Q : List V → Hp → Prop, (∀ vs H2, Ex H1 H2 → RpAll K H2 vs ds → Q vs H2) → ta σ H1 Q
def Dat.isL : Dat → Bool
  | .lst _ => true
  | _ => false
theorem frs_not {H : Hp} {v : V} {d : Dat} (h : d.isL = false) : Frs H v d := fun ds e => by subst e; cases h
theorem Frs.back {H H' : Hp} {v : V} {d : Dat} (f : Frs H' v d) (e : Ex H H') : Frs H v d := fun ds z => by
  obtain ⟨p, h1, h2⟩ := f ds z
  exact ⟨p, h1, fresh_back e h2⟩
/-- a def's promise: for arguments that read as ds it gives what reads as r, where R ds r -/
def PureSp (K : PySem.W.Frag) (R : List Dat → Dat → Prop) : Sp := fun vs H Q _ => ∃ ds r, RpAll K H vs ds ∧ R ds r ∧ ∀ v H', Ex H H' → Rp K H' v r → Frs H v r → Q v H'
section
variable {K : PySem.W.Frag} {σ : L2.St} {H H' : Hp} {ta tb tc te : TE} {t u : TT} {d e : Dat} {ds es : List Dat}
theorem Evd.mono (x : Ex H H') (h : Evd K te σ H d) : Evd K te σ H' d := fun H1 a Q q => h H1 (x.trans a) Q q
theorem Evf.mono (x : Ex H H') (h : Evf K te σ H d) : Evf K te σ H' d := fun H1 a Q q => h H1 (x.trans a) Q q
theorem evf (h : Evd K te σ H d) (n : d.isL = false := by rfl) : Evf K te σ H d := fun H1 a Q q => h H1 a Q fun v H2 e2 r => q v H2 e2 r (frs_not n)
theorem Evf.dd (h : Evf K te σ H d) : Evd K te σ H d := fun H1 a Q q => h H1 a Q fun v H2 e2 r _ => q v H2 e2 r
theorem evd_is (h : Evd K te σ H d) (x : d = e) : Evd K te σ H e := by rw [← x]; exact h
theorem evf_is (h : Evf K te σ H d) (x : d = e) : Evf K te σ H e := by rw [← x]; exact h
theorem evd_var {i : Nat} {v : V} (h : σ[i]? = some (some v)) (r : Rp K H v d) : Evd K (tVar i) σ H d := fun H1 x _ q => ⟨v, h, q v H1 (Ex.refl H1) (r.ex x)⟩
theorem evd_int {i : Int} : Evd K (tC (.int i)) σ H (.int i) := fun H1 _ _ q => q _ H1 (Ex.refl H1) (.int i)
theorem evd_str {s : Str} : Evd K (tC (.str s)) σ H (.str s) := fun H1 _ _ q => q _ H1 (Ex.refl H1) (.str s)
theorem evd_bl {b : Bool} : Evd K (tC (.bl b)) σ H (.bl b) := fun H1 _ _ q => q _ H1 (Ex.refl H1) (.bl b)
theorem evd_non : Evd K (tC .non) σ H .non := fun H1 _ _ q => q _ H1 (Ex.refl H1) .non
theorem eva_nil : EvdA K tNil σ H [] := fun H1 _ _ q => q _ H1 (Ex.refl H1) .nil
theorem eva_cons {tr : TA} (h : Evd K te σ H d) (hr : EvdA K tr σ H ds) : EvdA K (tCons te tr) σ H (d :: ds) := fun H1 x _ q =>
  h H1 x _ fun v H2 e2 r => hr H2 (x.trans e2) _ fun vs H3 e3 rs => q _ H3 (e2.trans e3) (.cons (r.ex e3) rs)
theorem big16 : (1000 : Nat) ≤ sizeLine := by decide
theorem evd_tup {ta : TA} (h : EvdA K ta σ H ds) (z : ds.length ≤ 1000 := by decide) : Evd K (tTup ta) σ H (.tup ds) := fun H1 x _ q =>
  h H1 x _ fun vs H2 e2 r => ⟨by rw [rpAll_len r]; exact Nat.le_trans z big16, fun p hp => q _ _ (e2.trans (Ex.new hp)) (.tup (st_of upd_same) (r.ex (Ex.new hp)))⟩
theorem evd_tupF {ta : TA} (h : EvdA K ta σ H ds) (z : ds.length ≤ 1000 := by decide) : Evd K (tTupF ta) σ H (.ptup ds) := fun H1 x _ q =>
  h H1 x _ fun vs H2 e2 r => ⟨by rw [rpAll_len r]; exact Nat.le_trans z big16, fun p o hp ho => q _ _ (e2.trans (Ex.new hp)) (.ptup upd_same ho (r.ex (Ex.new hp)))⟩
theorem frs_new {p : Addr} {d : Dat} (h : H p = none) : Frs H (.ref p) d := fun _ _ => ⟨p, rfl, h⟩
theorem evf_lst {ta : TA} (h : EvdA K ta σ H ds) (z : ds.length ≤ 1000 := by decide) : Evf K (tLst ta) σ H (.lst ds) := fun H1 x _ q =>
  h H1 x _ fun vs H2 e2 r => ⟨by rw [rpAll_len r]; exact Nat.le_trans z big16, fun p hp => q _ _ (e2.trans (Ex.new hp)) (.lst upd_same (r.ex (Ex.new hp))) (frs_new (fresh_back e2 hp))⟩
/-! ### operators -/
theorem evd_op {r : R2} {c : Dat} (h1 : Evd K ta σ H d) (h2 : Evd K tb σ H e) (hr : ∀ x y H1, Ex H H1 → Rp K H1 x d → Rp K H1 y e → ∀ Q : VK, (∀ v H2, Ex H1 H2 → Rp K H2 v c → Q v H2) → r x y H1 Q) : Evd K (tOp r ta tb) σ H c :=
  fun H1 x Q q => h1 H1 x _ fun v H2 e2 r2 => h2 H2 (x.trans e2) _ fun w H3 e3 r3 => hr v w H3 ((x.trans e2).trans e3) (r2.ex e3) r3 Q fun z H4 e4 r4 => q z H4 ((e2.trans e3).trans e4) r4
theorem evd_opI {g : Int → Int → V} {i j : Int} {c : Dat} (h1 : Evd K ta σ H (.int i)) (h2 : Evd K tb σ H (.int j)) (hc : ∀ H1, Rp K H1 (g i j) c) : Evd K (tOp (rI0 g) ta tb) σ H c :=
  evd_op h1 h2 fun x y H1 e1 rx ry Q q => ⟨i, j, rp_int rx, rp_int ry, q _ H1 (Ex.refl H1) (hc H1)⟩
theorem evd_opC {C : Int → Int → Prop} {g : Int → Int → V} {i j : Int} {c : Dat} (h1 : Evd K ta σ H (.int i)) (h2 : Evd K tb σ H (.int j)) (hC : C i j) (hc : ∀ H1, Rp K H1 (g i j) c) : Evd K (tOp (rI C g) ta tb) σ H c :=
  evd_op h1 h2 fun x y H1 e1 rx ry Q q => ⟨i, j, rp_int rx, rp_int ry, hC, q _ H1 (Ex.refl H1) (hc H1)⟩
theorem evd_le {i j : Int} (h1 : Evd K ta σ H (.int i)) (h2 : Evd K tb σ H (.int j)) : Evd K (tOp rLe ta tb) σ H (.bl (decide (i ≤ j))) := evd_opI h1 h2 fun _ => .bl _
theorem evd_gt {i j : Int} (h1 : Evd K ta σ H (.int i)) (h2 : Evd K tb σ H (.int j)) : Evd K (tOp rGt ta tb) σ H (.bl (decide (j < i))) := evd_opI h1 h2 fun _ => .bl _
theorem evd_ge {i j : Int} (h1 : Evd K ta σ H (.int i)) (h2 : Evd K tb σ H (.int j)) : Evd K (tOp rGe ta tb) σ H (.bl (decide (j ≤ i))) := evd_opI h1 h2 fun _ => .bl _
theorem evd_add {i j : Int} (h1 : Evd K ta σ H (.int i)) (h2 : Evd K tb σ H (.int j)) : Evd K (tOp (rPlus K) ta tb) σ H (.int (i + j)) :=
  evd_op h1 h2 fun x y H1 e1 rx ry Q q => .inl ⟨i, j, rp_int rx, rp_int ry, q _ H1 (Ex.refl H1) (.int _)⟩
theorem evd_sub {i j : Int} (h1 : Evd K ta σ H (.int i)) (h2 : Evd K tb σ H (.int j)) : Evd K (tOp rMinus ta tb) σ H (.int (i - j)) := evd_opI h1 h2 fun _ => .int _
theorem evd_neg {i : Int} (h : Evd K ta σ H (.int i)) : Evd K (tUn rNegU ta) σ H (.int (-i)) := fun H1 x Q q => h H1 x _ fun v H2 e2 r => ⟨i, rp_int r, q _ H2 e2 (.int _)⟩
/-- two lists -/
theorem evf_cat {ds es : List Dat} (h1 : Evd K ta σ H (.lst ds)) (h2 : Evd K tb σ H (.lst es)) (z : ds.length + es.length ≤ 1000) : Evf K (tOp (rPlus K) ta tb) σ H (.lst (ds ++ es)) :=
  fun H1 x Q q => h1 H1 x _ fun v H2 e2 r2 => h2 H2 (x.trans e2) _ fun w H3 e3 r3 => by
    obtain ⟨a, xs, ea, ha, ra⟩ := rp_L (r2.ex e3)
    obtain ⟨b, ys, eb, hb, rb⟩ := rp_L r3
    have z' : xs.length + ys.length ≤ sizeLine := by
      rw [rpAll_len ra, rpAll_len rb]
      exact Nat.le_trans z big16
    exact .inr (.inl ⟨a, b, xs, ys, ea, eb, ha, hb, z', fun p hp => q _ _ ((e2.trans e3).trans (Ex.new hp)) (.lst upd_same ((rpAll_app ra rb).ex (Ex.new hp))) (frs_new (fresh_back (e2.trans e3) hp))⟩)
/-- two tuples -/
theorem evd_catT {d e : Dat} {ds es : List Dat} (h1 : Evd K ta σ H (.tup ds)) (h2 : Evd K tb σ H (.tup es)) (z : ds.length + es.length ≤ 1000) : Evd K (tOp (rPlus K) ta tb) σ H (.tup (ds ++ es)) :=
  evd_op h1 h2 fun x y H1 e1 rx ry Q q => by
    obtain ⟨a, xs, ea, ha, ra⟩ := rp_T rx (.inl rfl)
    obtain ⟨b, ys, eb, hb, rb⟩ := rp_T ry (.inl rfl)
    have z' : xs.length + ys.length ≤ sizeLine := by
      rw [rpAll_len ra, rpAll_len rb]
      exact Nat.le_trans z big16
    have rab := rpAll_app ra rb
    refine .inr (.inr ⟨a, b, xs, ys, ea, eb, ha, hb, z', fun n => ?_, fun _ n => ?_, fun _ _ p hp => ?_⟩)
    · subst n
      exact q _ H1 (Ex.refl H1) (.tup hb rab)
    · subst n
      rw [List.append_nil] at rab
      exact q _ H1 (Ex.refl H1) (.tup ha rab)
    · exact q _ _ (Ex.new hp) (.tup (st_of upd_same) (rab.ex (Ex.new hp)))
/-- x < y -/
theorem evd_lt {d e : Dat} (h1 : Evd K ta σ H d) (h2 : Evd K tb σ H e) (al : PySem.W.alike d.out e.out = true) (nn : d.out ≠ .none) (dep : d.out.depth ≤ 60) : Evd K (tOp (rLtD K) ta tb) σ H (.bl (PySem.W.dataLt d.out e.out)) :=
  evd_op h1 h2 fun x y H1 e1 rx ry Q q => ⟨_, _, Rp.dp _ _ rx, Rp.dp _ _ ry, al, nn, dep, q _ H1 (Ex.refl H1) (.bl _)⟩
theorem evd_ltI {i j : Int} (h1 : Evd K ta σ H (.int i)) (h2 : Evd K tb σ H (.int j)) : Evd K (tOp (rLtD K) ta tb) σ H (.bl (decide (i < j))) := by
  have q := evd_lt h1 h2 (by simp [Dat.out, PySem.W.alike]) (by simp [Dat.out]) (by simp [Dat.out, PyData.depth])
  rw [Dat.out, Dat.out, PySem.W.dataLt_int] at q
  exact q
theorem evd_ltS {i j : Str} (h1 : Evd K ta σ H (.str i)) (h2 : Evd K tb σ H (.str j)) : Evd K (tOp (rLtD K) ta tb) σ H (.bl (decide (i.cps.toList < j.cps.toList))) := by
  have q := evd_lt h1 h2 (by simp [Dat.out, PySem.W.alike]) (by simp [Dat.out]) (by simp [Dat.out, PyData.depth])
  rw [Dat.out, Dat.out, PySem.W.dataLt_str] at q
  exact q
/-- ==, != -/
theorem evd_eq {d e : Dat} (h1 : Evd K ta σ H d) (h2 : Evd K tb σ H e) (s1 : SeqAt.shaped d.out = true) (s2 : SeqAt.shaped e.out = true) : Evd K (tOp (rEqX K) ta tb) σ H (.bl (PyData.eqv d.out e.out)) :=
  evd_op h1 h2 fun x y H1 e1 rx ry Q q => .inr ⟨_, _, Rp.dp _ _ rx, Rp.dp _ _ ry, s1, s2, q _ H1 (Ex.refl H1) (.bl _)⟩
theorem evd_ne {d e : Dat} (h1 : Evd K ta σ H d) (h2 : Evd K tb σ H e) (s1 : SeqAt.shaped d.out = true) (s2 : SeqAt.shaped e.out = true) : Evd K (tOp (rNeX K) ta tb) σ H (.bl (!PyData.eqv d.out e.out)) :=
  evd_op h1 h2 fun x y H1 e1 rx ry Q q => .inr ⟨_, _, Rp.dp _ _ rx, Rp.dp _ _ ry, s1, s2, q _ H1 (Ex.refl H1) (.bl _)⟩
theorem evd_eqI {i j : Int} (h1 : Evd K ta σ H (.int i)) (h2 : Evd K tb σ H (.int j)) : Evd K (tOp (rEqX K) ta tb) σ H (.bl (decide (i = j))) :=
  evd_op h1 h2 fun x y H1 e1 rx ry Q q => by
    rw [rp_int rx, rp_int ry]
    refine .inl ⟨rfl, q _ H1 (Ex.refl H1) ?_⟩
    rw [show decide ((V.int i) = V.int j) = decide (i = j) by simp]
    exact .bl _
theorem evd_neI {i j : Int} (h1 : Evd K ta σ H (.int i)) (h2 : Evd K tb σ H (.int j)) : Evd K (tOp (rNeX K) ta tb) σ H (.bl (!decide (i = j))) :=
  evd_op h1 h2 fun x y H1 e1 rx ry Q q => by
    rw [rp_int rx, rp_int ry]
    refine .inl ⟨rfl, q _ H1 (Ex.refl H1) ?_⟩
    rw [show decide ((V.int i) = V.int j) = decide (i = j) by simp]
    exact .bl _
theorem evd_eqS {i j : Str} (h1 : Evd K ta σ H (.str i)) (h2 : Evd K tb σ H (.str j)) : Evd K (tOp (rEqX K) ta tb) σ H (.bl (decide (i = j))) :=
  evd_op h1 h2 fun x y H1 e1 rx ry Q q => by
    rw [rp_str rx, rp_str ry]
    refine .inl ⟨rfl, q _ H1 (Ex.refl H1) ?_⟩
    rw [show decide ((V.str i) = V.str j) = decide (i = j) by simp]
    exact .bl _
theorem evd_neS {i j : Str} (h1 : Evd K ta σ H (.str i)) (h2 : Evd K tb σ H (.str j)) : Evd K (tOp (rNeX K) ta tb) σ H (.bl (!decide (i = j))) :=
  evd_op h1 h2 fun x y H1 e1 rx ry Q q => by
    rw [rp_str rx, rp_str ry]
    refine .inl ⟨rfl, q _ H1 (Ex.refl H1) ?_⟩
    rw [show decide ((V.str i) = V.str j) = decide (i = j) by simp]
    exact .bl _
theorem evd_neB {i j : Bool} (h1 : Evd K ta σ H (.bl i)) (h2 : Evd K tb σ H (.bl j)) : Evd K (tOp (rNeX K) ta tb) σ H (.bl (!decide (i = j))) :=
  evd_op h1 h2 fun x y H1 e1 rx ry Q q => by
    rw [rp_bl rx, rp_bl ry]
    refine .inl ⟨rfl, q _ H1 (Ex.refl H1) ?_⟩
    rw [show decide ((V.bl i) = V.bl j) = decide (i = j) by simp]
    exact .bl _
/-- is, is not -/
theorem evd_isN {d : Dat} {b : Bool} (h : Evd K ta σ H d) (e : b = (match d with | .non => true | _ => false)) : Evd K (tOp rIsN ta (tC .non)) σ H (.bl b) := fun H1 x Q q => h H1 x _ fun v H2 e2 r => ⟨rfl, by
  refine q _ H2 e2 ?_
  subst e
  cases r <;> exact .bl _⟩
theorem evd_notN {d : Dat} {b : Bool} (h : Evd K ta σ H d) (e : b = (match d with | .non => false | _ => true)) : Evd K (tOp rNotN ta (tC .non)) σ H (.bl b) := fun H1 x Q q => h H1 x _ fun v H2 e2 r => ⟨rfl, by
  refine q _ H2 e2 ?_
  subst e
  cases r <;> exact .bl _⟩
theorem evd_isB {a b : Bool} (h : Evd K ta σ H (.bl a)) : Evd K (tOp rIsB ta (tC (.bl b))) σ H (.bl (decide (a = b))) := fun H1 x Q q => h H1 x _ fun v H2 e2 r => ⟨a, b, rp_bl r, rfl, q _ H2 e2 (.bl _)⟩
theorem evd_notB {a b : Bool} (h : Evd K ta σ H (.bl a)) : Evd K (tOp rNotB ta (tC (.bl b))) σ H (.bl (!decide (a = b))) := fun H1 x Q q => h H1 x _ fun v H2 e2 r => ⟨a, b, rp_bl r, rfl, q _ H2 e2 (.bl _)⟩
/-! ### items, slices, lengths -/
theorem evd_ix {d x : Dat} {ds : List Dat} {i : Int} (n : Nat) (h1 : Evd K ta σ H d) (h2 : Evd K tb σ H (.int i)) (s : IsS d ds) (e : i = (n : Int)) (g : ds[n]? = some x) : Evd K (tOp (rIx K) ta tb) σ H x :=
  evd_op h1 h2 fun v y H1 e1 rx ry Q q => by
    obtain ⟨a, xs, ea, ha, ra⟩ := rp_S rx s
    obtain ⟨z, hz, rz⟩ := rpAll_at ra g
    have hn : n < xs.length := (List.getElem?_eq_some_iff.mp hz).1
    have at' : atI xs i = some z := by
      unfold atI
      rw [e, Evl.ixN_nat hn]
      exact hz
    have go := q z H1 (Ex.refl H1) rz
    rcases ha with ha | ha
    · exact .inl ⟨a, xs, i, z, ea, rp_int ry, ha, at', go⟩
    · exact .inr (.inl ⟨a, xs, i, z, ea, rp_int ry, ha, at', go⟩)
theorem evd_ixS {z : Str} {i : Int} {c : Nat} (n : Nat) (h1 : Evd K ta σ H (.str z)) (h2 : Evd K tb σ H (.int i)) (e : i = (n : Int)) (g : z.cps.toList[n]? = some c) (len : z.length ≤ 1000) : Evd K (tOp (rIx K) ta tb) σ H (.str ⟨#[c]⟩) :=
  evd_op h1 h2 fun v y H1 e1 rx ry Q q => by
    have hn : n < z.cps.toList.length := (List.getElem?_eq_some_iff.mp g).1
    have at' : atI z.cps.toList i = some c := by
      unfold atI
      rw [e, Evl.ixN_nat hn]
      exact g
    exact .inr (.inr ⟨z, i, c, rp_str rx, rp_int ry, Nat.le_trans len big16, at', q _ H1 (Ex.refl H1) (.str _)⟩)
def EvO (K : PySem.W.Frag) (to : TO) (σ : L2.St) (H : Hp) (o : Option Int) : Prop := ∀ H1, Ex H H1 → ∀ Q : Option Int → Hp → Prop, (∀ H2, Ex H1 H2 → Q o H2) → to σ H1 Q
theorem evo_none : EvO K tNoPart σ H none := fun H1 _ _ q => q H1 (Ex.refl H1)
theorem evo_some {i : Int} (h : Evd K te σ H (.int i)) : EvO K (tPart te) σ H (some i) := fun H1 x _ q => h H1 x _ fun v H2 e2 r => ⟨i, rp_int r, q H2 e2⟩
def cutD (ds : List Dat) (lo hi : Option Int) : List Dat := (ds.drop (HT.sIx ds.length 0 lo)).take (HT.sIx ds.length ds.length hi - HT.sIx ds.length 0 lo)
theorem rp_cut {xs : List V} (r : RpAll K H xs ds) (lo hi : Option Int) : RpAll K H (cutV xs lo hi) (cutD ds lo hi) := by
  unfold cutV cutD
  rw [rpAll_len r]
  exact rpAll_take _ (rpAll_drop _ r)
theorem evd_slT {d : Dat} {ds es : List Dat} {tl th : TO} {lo hi : Option Int} (h : Evd K te σ H d) (h1 : EvO K tl σ H lo) (h2 : EvO K th σ H hi) (s : IsT d ds)
    (n : ¬ (HT.sIx ds.length 0 lo = 0 ∧ HT.sIx ds.length ds.length hi = ds.length)) (e : cutD ds lo hi = es) : Evd K (tSl (rSlT K) te tl th) σ H (.tup es) := fun H1 x Q q =>
  h H1 x _ fun v H2 e2 r => h1 H2 (x.trans e2) _ fun H3 e3 => h2 H3 ((x.trans e2).trans e3) _ fun H4 e4 => by
    obtain ⟨a, xs, ea, ha, ra⟩ := rp_T (r.ex (e3.trans e4)) s
    refine ⟨a, xs, ea, ha, by rw [rpAll_len ra]; exact n, fun p hp => q _ _ (((e2.trans e3).trans e4).trans (Ex.new hp)) (.tup (st_of upd_same) ?_)⟩
    rw [← e]
    exact (rp_cut ra lo hi).ex (Ex.new hp)
theorem evf_slL {ds es : List Dat} {tl th : TO} {lo hi : Option Int} (h : Evd K te σ H (.lst ds)) (h1 : EvO K tl σ H lo) (h2 : EvO K th σ H hi) (e : cutD ds lo hi = es) : Evf K (tSl (rSlL K) te tl th) σ H (.lst es) := fun H1 x Q q =>
  h H1 x _ fun v H2 e2 r => h1 H2 (x.trans e2) _ fun H3 e3 => h2 H3 ((x.trans e2).trans e3) _ fun H4 e4 => by
    obtain ⟨a, xs, ea, ha, ra⟩ := rp_L (r.ex (e3.trans e4))
    refine ⟨a, xs, ea, SqL.of ha, fun p hp => q _ _ (((e2.trans e3).trans e4).trans (Ex.new hp)) (.lst upd_same ?_) (frs_new (fresh_back ((e2.trans e3).trans e4) hp))⟩
    rw [← e]
    exact (rp_cut ra lo hi).ex (Ex.new hp)
theorem evd_slS {z : Str} {tl th : TO} {lo hi : Option Int} (h : Evd K te σ H (.str z)) (h1 : EvO K tl σ H lo) (h2 : EvO K th σ H hi) (len : z.length ≤ 1000) : Evd K (tSl rSlS te tl th) σ H (.str (cutS z lo hi)) := fun H1 x Q q =>
  h H1 x _ fun v H2 e2 r => h1 H2 (x.trans e2) _ fun H3 e3 => h2 H3 ((x.trans e2).trans e3) _ fun H4 e4 => ⟨z, rp_str r, Nat.le_trans len big16, q _ _ ((e2.trans e3).trans e4) (.str _)⟩
/-- calls of built-ins -/
theorem evd_cb1 {r : List V → Hp → VK → Prop} {c : Dat} (h : Evd K te σ H d) (hr : ∀ x H1, Ex H H1 → Rp K H1 x d → ∀ Q : VK, (∀ v H2, Ex H1 H2 → Rp K H2 v c → Q v H2) → r [x] H1 Q) : Evd K (tCB r (tCons te tNil)) σ H c :=
  fun H1 x Q q => h H1 x _ fun v H2 e2 r2 => hr v H2 (x.trans e2) r2 Q fun z H3 e3 r3 => q z H3 (e2.trans e3) r3
theorem evf_cb1 {r : List V → Hp → VK → Prop} {c : Dat} (h : Evd K te σ H d) (hr : ∀ x H1, Ex H H1 → Rp K H1 x d → ∀ Q : VK, (∀ v H2, Ex H1 H2 → Rp K H2 v c → Frs H1 v c → Q v H2) → r [x] H1 Q) : Evf K (tCB r (tCons te tNil)) σ H c :=
  fun H1 x Q q => h H1 x _ fun v H2 e2 r2 => hr v H2 (x.trans e2) r2 Q fun z H3 e3 r3 f => q z H3 (e2.trans e3) r3 (f.back e2)
theorem evd_len {d : Dat} {ds : List Dat} (h : Evd K te σ H d) (s : IsS d ds) : Evd K (tCB (rLenX K) (tCons te tNil)) σ H (.int (ds.length : Int)) := evd_cb1 h fun x H1 _ r Q q => by
  obtain ⟨a, xs, ea, ha, ra⟩ := rp_S r s
  refine .inl ⟨a, xs, by rw [ea], ha, ?_⟩
  rw [rpAll_len ra]
  exact q _ H1 (Ex.refl H1) (.int _)
theorem evd_lenS {z : Str} (h : Evd K te σ H (.str z)) (len : z.length ≤ 1000) : Evd K (tCB (rLenX K) (tCons te tNil)) σ H (.int (z.length : Int)) := evd_cb1 h fun x H1 _ r Q q =>
  .inr ⟨z, by rw [rp_str r], Nat.le_trans len big16, q _ H1 (Ex.refl H1) (.int _)⟩
theorem evd_all {bs : List Bool} (h : Evd K te σ H (.lst (bs.map .bl))) : Evd K (tCB (rAll K) (tCons te tNil)) σ H (.bl (bs.all id)) := evd_cb1 h fun x H1 _ r Q q => by
  obtain ⟨a, xs, ea, ha, ra⟩ := rp_L r
  rw [rpAll_bls ra] at ha
  exact ⟨a, bs, by rw [ea], SqL.of ha, q _ H1 (Ex.refl H1) (.bl _)⟩
theorem evd_any {bs : List Bool} (h : Evd K te σ H (.lst (bs.map .bl))) : Evd K (tCB (rAny K) (tCons te tNil)) σ H (.bl (bs.any id)) := evd_cb1 h fun x H1 _ r Q q => by
  obtain ⟨a, xs, ea, ha, ra⟩ := rp_L r
  rw [rpAll_bls ra] at ha
  exact ⟨a, bs, by rw [ea], SqL.of ha, q _ H1 (Ex.refl H1) (.bl _)⟩
theorem evd_sum {ns : List Int} (h : Evd K te σ H (.lst (ns.map .int))) : Evd K (tCB (rSum K) (tCons te tNil)) σ H (.int ns.sum) := evd_cb1 h fun x H1 _ r Q q => by
  obtain ⟨a, xs, ea, ha, ra⟩ := rp_L r
  rw [rpAll_ints ra] at ha
  exact ⟨a, ns, by rw [ea], SqL.of ha, q _ H1 (Ex.refl H1) (.int _)⟩
theorem evf_list {d : Dat} {ds : List Dat} (h : Evd K te σ H d) (s : IsS d ds) : Evf K (tCB (rListX K) (tCons te tNil)) σ H (.lst ds) := evf_cb1 h fun x H1 _ r Q q => by
  obtain ⟨a, xs, ea, ha, ra⟩ := rp_S r s
  exact ⟨a, xs, by rw [ea], ha, fun p hp => q _ _ (Ex.new hp) (.lst upd_same (ra.ex (Ex.new hp))) (frs_new hp)⟩
/-- tuple(xs) of a list -/
theorem evd_tuple {ds : List Dat} (h : Evd K te σ H (.lst ds)) : Evd K (tCB (rTupleX K) (tCons te tNil)) σ H (.tup ds) := evd_cb1 h fun x H1 _ r Q q => by
  obtain ⟨a, xs, ea, ha, ra⟩ := rp_L r
  exact ⟨a, xs, by rw [ea], .inl ⟨SqL.of ha, fun p hp => q _ _ (Ex.new hp) (.tup (st_of upd_same) (ra.ex (Ex.new hp)))⟩⟩
/-- sorted(xs): some sorted list with the same items -/
theorem go_sorted {ds : List Dat} (h : Evd K te σ H (.lst ds)) (al : PySem.W.AllAlike (ds.map Dat.out)) (so : PySem.W.Sortable (ds.map Dat.out)) (dep : ∀ d, d ∈ ds → d.out.depth ≤ 10) (len : ds.length ≤ 1000)
    {H0 : Hp} (x : Ex H H0) {Q : VK} (k : ∀ v H2 es, Ex H0 H2 → Rp K H2 v (.lst es) → es.Perm ds → es.Pairwise (fun a b => leD a b = true) → Frs H0 v (.lst es) → Q v H2) :
    tCB (rSortedX K) (tCons te tNil) σ H0 Q := h H0 x _ fun v H2 e2 r => by
  obtain ⟨a, xs, ea, ha, ra⟩ := rp_L r
  refine ⟨a, xs, ds, by rw [ea], SqL.of ha, ra, al, so, dep, by rw [rpAll_len ra]; exact len, fun ys es p hd pm pw hp => ?_⟩
  exact k _ _ es (e2.trans (Ex.new hp)) (.lst upd_same (hd.ex (Ex.new hp))) pm pw (frs_new (fresh_back e2 hp))
/-- .. where only one list can be meant -/
theorem evf_sorted {ds zs : List Dat} (h : Evd K te σ H (.lst ds)) (al : PySem.W.AllAlike (ds.map Dat.out)) (so : PySem.W.Sortable (ds.map Dat.out)) (dep : ∀ d, d ∈ ds → d.out.depth ≤ 10) (len : ds.length ≤ 1000)
    (one : ∀ es : List Dat, es.Perm ds → es.Pairwise (fun a b => leD a b = true) → es = zs) : Evf K (tCB (rSortedX K) (tCons te tNil)) σ H (.lst zs) := fun H1 x Q q =>
  go_sorted h al so dep len x fun v H2 es e2 r pm pw f => by
    have e := one es pm pw
    subst e
    exact q v H2 e2 r f
end
end Lib

/-! in, isinstance, comprehensions, loops, calls, statements -/
namespace Lib
open PySem L2 PySem.Spec PyProof.Rows Evl
/-- every tuple stands -/
def isTup : HO → Bool
  | .tup _ => true
  | .frz _ (.tup _) => true
  | _ => false
def Ton (H H' : Hp) : Prop := ∀ a o, H a = some o → isTup o = true → H' a = some o
theorem Ton.refl (H : Hp) : Ton H H := fun _ _ h _ => h
theorem Ton.trans {H H1 H2 : Hp} (a : Ton H H1) (b : Ton H1 H2) : Ton H H2 := fun x o h n => b x o (a x o h n) n
theorem Ton.of {H H' : Hp} (e : Ex H H') : Ton H H' := fun a o h _ => e a o h
theorem Ton.upd {H H' : Hp} {p : Addr} {o u : HO} (e : Ton H H') (h : H' p = some u) (n : isTup u = false := by rfl) : Ton H (upd H' p o) := fun a w ha t => by
  have q := e a w ha t
  by_cases z : a = p
  · subst z
    rw [h] at q
    cases q
    rw [n] at t
    cases t
  · rw [upd_ne z]
    exact q
theorem Ton.chg {H H' : Hp} {t : Addr} {ys : List V} (ht : H t = some (.lst ys)) (e : Chg t H H') : Ton H H' := fun a o h n => e a o h fun z => by
  subst z
  rw [ht] at h
  cases h
  cases n
section
variable {K : PySem.W.Frag} {H H' : Hp}
theorem sqt_ton (e : Ton H H') {a : Addr} {xs : List V} (h : SqT K H a xs) : SqT K H' a xs := by
  rcases h with h | h
  · rcases h with h | ⟨o, h⟩
    · exact .inl (.inl (e _ _ h rfl))
    · exact .inl (.inr ⟨o, e _ _ h rfl⟩)
  · exact .inr h
mutual
theorem Rp.tonD (e : Ton H H') : ∀ (d : Dat) (v : V), d.still = true → Rp K H v d → Rp K H' v d
  | .non, _, _, r => by cases r; exact .non
  | .bl _, _, _, r => by cases r; exact .bl _
  | .int _, _, _, r => by cases r; exact .int _
  | .str _, _, _, r => by cases r; exact .str _
  | .lst ds, _, s, r => by rw [Dat.still] at s; cases s
  | .tup ds, _, s, r => by
    rw [Dat.still] at s
    cases r with
    | tup h u => exact .tup (sqt_ton e h) (RpAll.tonD e ds _ s u)
  | .ptup ds, _, s, r => by
    rw [Dat.still] at s
    cases r with
    | ptup h o u => exact .ptup (e _ _ h rfl) o (RpAll.tonD e ds _ s u)
theorem RpAll.tonD (e : Ton H H') : ∀ (ds : List Dat) (vs : List V), stillAll ds = true → RpAll K H vs ds → RpAll K H' vs ds
  | [], _, _, r => by cases r; exact .nil
  | d :: ds, _, s, r => by
    rw [stillAll, Bool.and_eq_true] at s
    cases r with
    | cons h u => exact .cons (Rp.tonD e d _ s.1 h) (RpAll.tonD e ds _ s.2 u)
end
theorem Rp.ton {d : Dat} {v : V} (r : Rp K H v d) (e : Ton H H') (s : d.still = true := by rfl) : Rp K H' v d := Rp.tonD e d v s r
theorem RpAll.ton {ds : List Dat} {vs : List V} (r : RpAll K H vs ds) (e : Ton H H') (s : stillAll ds = true := by rfl) : RpAll K H' vs ds := RpAll.tonD e ds vs s r
theorem still_mem : ∀ {ds : List Dat} {d : Dat}, stillAll ds = true → d ∈ ds → d.still = true
  | e :: ds, d, s, m => by
    rw [stillAll, Bool.and_eq_true] at s
    rcases List.mem_cons.mp m with z | z
    · rw [z]
      exact s.1
    · exact still_mem s.2 z
theorem still_all : ∀ {ds : List Dat}, (∀ d, d ∈ ds → d.still = true) → stillAll ds = true
  | [], _ => by rw [stillAll]
  | d :: ds, h => by
    rw [stillAll, h d List.mem_cons_self, still_all fun e m => h e (List.mem_cons_of_mem _ m)]
    rfl
end
section
variable {K : PySem.W.Frag} {σ : L2.St} {H H' : Hp} {ta tb tc te tl : TE} {t u : TT} {d e : Dat} {ds es : List Dat}
theorem Evd.go (h : Evd K te σ H d) {Q : VK} (k : ∀ v H1, Ex H H1 → Rp K H1 v d → Q v H1) : te σ H Q := h H (Ex.refl H) Q k
theorem Evf.go (h : Evf K te σ H d) {Q : VK} (k : ∀ v H1, Ex H H1 → Rp K H1 v d → Frs H v d → Q v H1) : te σ H Q := h H (Ex.refl H) Q k
/-! ### in -/
theorem inV_strs (s : Str) : ∀ ss : List Str, inV (.str s) (ss.map V.str) = decide (s ∈ ss)
  | [] => by simp [inV]
  | x :: ss => by
    have ih := inV_strs s ss
    unfold inV at ih ⊢
    rw [List.map_cons, List.any_cons, ih]
    show ((x == s) || decide (s ∈ ss)) = decide (s ∈ x :: ss)
    by_cases h : x = s
    · subst h
      simp
    · have h' : ¬ s = x := fun z => h z.symm
      have hb : (x == s) = false := beq_eq_false_iff_ne.mpr h
      rw [hb, Bool.false_or]
      simp [h']
theorem inV_ints (s : Int) : ∀ ss : List Int, inV (.int s) (ss.map V.int) = decide (s ∈ ss)
  | [] => by simp [inV]
  | x :: ss => by
    have ih := inV_ints s ss
    unfold inV at ih ⊢
    rw [List.map_cons, List.any_cons, ih]
    show ((x == s) || decide (s ∈ ss)) = decide (s ∈ x :: ss)
    by_cases h : x = s
    · subst h
      simp
    · have h' : ¬ s = x := fun z => h z.symm
      have hb : (x == s) = false := beq_eq_false_iff_ne.mpr h
      rw [hb, Bool.false_or]
      simp [h']
theorem flat_ints (ss : List Int) : (ss.map V.int).all flatV = true := by
  rw [List.all_eq_true]
  intro x hx
  obtain ⟨y, _, e⟩ := List.mem_map.mp hx
  subst e
  rfl
theorem evd_inS {s : Str} {ss : List Str} (h1 : Evd K ta σ H (.str s)) (h2 : Evd K tb σ H e) (q : IsS e (ss.map .str)) : Evd K (tOp (rIn K false) ta tb) σ H (.bl (decide (s ∈ ss))) :=
  evd_op h1 h2 fun x y H1 e1 rx ry Q k => by
    obtain ⟨a, xs, ea, ha, ra⟩ := rp_S ry q
    have ex := rpAll_strs ra
    subst ex
    refine ⟨a, _, ea, ha, by rw [rp_str rx]; rfl, flat_strs ss, ?_⟩
    rw [rp_str rx, inV_strs]
    exact k _ H1 (Ex.refl H1) (.bl _)
theorem evd_niS {s : Str} {ss : List Str} (h1 : Evd K ta σ H (.str s)) (h2 : Evd K tb σ H e) (q : IsS e (ss.map .str)) : Evd K (tOp (rIn K true) ta tb) σ H (.bl (!decide (s ∈ ss))) :=
  evd_op h1 h2 fun x y H1 e1 rx ry Q k => by
    obtain ⟨a, xs, ea, ha, ra⟩ := rp_S ry q
    have ex := rpAll_strs ra
    subst ex
    refine ⟨a, _, ea, ha, by rw [rp_str rx]; rfl, flat_strs ss, ?_⟩
    rw [rp_str rx, inV_strs]
    exact k _ H1 (Ex.refl H1) (.bl _)
theorem evd_inI {s : Int} {ss : List Int} (h1 : Evd K ta σ H (.int s)) (h2 : Evd K tb σ H e) (q : IsS e (ss.map .int)) : Evd K (tOp (rIn K false) ta tb) σ H (.bl (decide (s ∈ ss))) :=
  evd_op h1 h2 fun x y H1 e1 rx ry Q k => by
    obtain ⟨a, xs, ea, ha, ra⟩ := rp_S ry q
    have ex := rpAll_ints ra
    subst ex
    refine ⟨a, _, ea, ha, by rw [rp_int rx]; rfl, flat_ints ss, ?_⟩
    rw [rp_int rx, inV_ints]
    exact k _ H1 (Ex.refl H1) (.bl _)
/-- one sign in a text -/
theorem evd_inC {c : Nat} {z : Str} (h1 : Evd K ta σ H (.str ⟨#[c]⟩)) (h2 : Evd K tb σ H (.str z)) : Evd K (tOp rInS ta tb) σ H (.bl (decide (c ∈ z.cps.toList))) :=
  evd_op h1 h2 fun x y H1 e1 rx ry Q k => ⟨c, z, rp_str rx, rp_str ry, k _ H1 (Ex.refl H1) (.bl _)⟩
/-- data of any depth in a list -/
theorem evd_inD (h1 : Evd K ta σ H d) (h2 : Evd K tb σ H (.lst ds)) (s1 : SeqAt.shaped d.out = true) (s2 : SeqAt.shaped (Dat.lst ds).out = true) : Evd K (tOp (rInD K) ta tb) σ H (.bl (ds.any fun z => PyData.eqv z.out d.out)) :=
  evd_op h1 h2 fun x y H1 e1 rx ry Q k => by
    have q := Rp.dp _ _ ry
    rw [Dat.out] at q s2
    refine ⟨_, _, Rp.dp _ _ rx, q, s1, s2, ?_⟩
    rw [outAll_eq, List.any_map]
    exact k _ H1 (Ex.refl H1) (.bl _)
theorem evd_niD (h1 : Evd K ta σ H d) (h2 : Evd K tb σ H (.lst ds)) (s1 : SeqAt.shaped d.out = true) (s2 : SeqAt.shaped (Dat.lst ds).out = true) : Evd K (tOp (rNotInD K) ta tb) σ H (.bl (!ds.any fun z => PyData.eqv z.out d.out)) :=
  evd_op h1 h2 fun x y H1 e1 rx ry Q k => by
    have q := Rp.dp _ _ ry
    rw [Dat.out] at q s2
    refine ⟨_, _, Rp.dp _ _ rx, q, s1, s2, ?_⟩
    rw [outAll_eq, List.any_map]
    exact k _ H1 (Ex.refl H1) (.bl _)
/-! ### isinstance -/
def Dat.ty : Dat → String
  | .non => "NoneType"
  | .bl _ => "bool"
  | .int _ => "int"
  | .str _ => "str"
  | .lst _ => "list"
  | .tup _ => "tuple"
  | .ptup _ => "tuple"
theorem rp_ty {v : V} (r : Rp K H v d) : TyX K H v (.type d.ty) := by
  cases r with
  | non => exact .base .non
  | bl b => exact .base (.bl b)
  | int b => exact .base (.int b)
  | str b => exact .base (.str b)
  | lst h t => exact .base (.lst h)
  | tup h t =>
    rcases h with h | ⟨o, its, n, h1, h2, _⟩
    · rcases h with h | ⟨o, h⟩
      · exact .base (.tup h)
      · exact .fTuple h
    · exact .kTuple h1 h2
  | ptup h o t => exact .fTuple h
theorem evd_isi {T : String} {b : Bool} (h : Evd K ta σ H d) (k : kitB d.ty T = some b) : Evd K (tCB (rIsi K) (tCons ta (tCons (tC (.ty T)) tNil))) σ H (.bl b) := fun H1 x Q q =>
  h H1 x _ fun v H2 e2 r => ⟨v, .ty T, .type d.ty, .type T, b, rfl, .ty T, rp_ty r, kit_ty k, q _ H2 e2 (.bl b)⟩
def Dat.isT : Dat → Bool
  | .tup _ => true
  | .ptup _ => true
  | _ => false
def Dat.isS : Dat → Bool
  | .str _ => true
  | _ => false
def Dat.isI : Dat → Bool
  | .int _ => true
  | .bl _ => true
  | _ => false
def Dat.isB : Dat → Bool
  | .bl _ => true
  | _ => false
theorem evd_isiT (h : Evd K ta σ H d) : Evd K (tCB (rIsi K) (tCons ta (tCons (tC (.ty "tuple")) tNil))) σ H (.bl d.isT) := evd_isi h (by cases d <;> simp only [Dat.ty, Dat.isT] <;> decide +kernel)
theorem evd_isiS (h : Evd K ta σ H d) : Evd K (tCB (rIsi K) (tCons ta (tCons (tC (.ty "str")) tNil))) σ H (.bl d.isS) := evd_isi h (by cases d <;> simp only [Dat.ty, Dat.isS] <;> decide +kernel)
theorem evd_isiI (h : Evd K ta σ H d) : Evd K (tCB (rIsi K) (tCons ta (tCons (tC (.ty "int")) tNil))) σ H (.bl d.isI) := evd_isi h (by cases d <;> simp only [Dat.ty, Dat.isI] <;> decide +kernel)
theorem evd_isiB (h : Evd K ta σ H d) : Evd K (tCB (rIsi K) (tCons ta (tCons (tC (.ty "bool")) tNil))) σ H (.bl d.isB) := evd_isi h (by cases d <;> simp only [Dat.ty, Dat.isB] <;> decide +kernel)
/-! ### tests, and, or, not -/
theorem et_B {b : Bool} (h : Evd K te σ H (.bl b)) : EvT (tB te) σ H b := fun H1 x _ q => h H1 x _ fun v H2 e2 r => ⟨b, rp_bl r, q H2 e2⟩
theorem et_T {b : Bool} (h : Evd K te σ H (.bl b)) : EvT (tTest te) σ H b := fun H1 x _ q => h H1 x _ fun v H2 e2 r => ⟨b, rp_bl r, q H2 e2⟩
theorem et_yes : EvT tYes σ H true := fun H1 _ _ q => q H1 (Ex.refl H1)
theorem evd_and {a b : Bool} (h1 : Evd K ta σ H (.bl a)) (h2 : a = true → Evd K tb σ H (.bl b)) : Evd K (tAndV ta tb) σ H (.bl (a && b)) := fun H1 x Q q => h1 H1 x _ fun v H2 e2 r => ⟨a, rp_bl r, by
  cases a with
  | true =>
    show tb σ H2 Q
    exact h2 rfl H2 (x.trans e2) Q fun w H3 e3 r3 => q w H3 (e2.trans e3) r3
  | false =>
    show Q (.bl false) H2
    exact q _ H2 e2 (.bl _)⟩
theorem evd_or {a b : Bool} (h1 : Evd K ta σ H (.bl a)) (h2 : a = false → Evd K tb σ H (.bl b)) : Evd K (tOrV ta tb) σ H (.bl (a || b)) := fun H1 x Q q => h1 H1 x _ fun v H2 e2 r => ⟨a, rp_bl r, by
  cases a with
  | true =>
    show Q (.bl true) H2
    exact q _ H2 e2 (.bl _)
  | false =>
    show tb σ H2 Q
    exact h2 rfl H2 (x.trans e2) Q fun w H3 e3 r3 => q w H3 (e2.trans e3) r3⟩
theorem evd_not {a : Bool} (h1 : Evd K ta σ H (.bl a)) : Evd K (tNotV ta) σ H (.bl (!a)) := fun H1 x Q q => h1 H1 x _ fun v H2 e2 r => ⟨a, rp_bl r, q _ H2 e2 (.bl _)⟩
theorem evd_chain {r r' : R2} {a b : Bool} {c : Dat} (h1 : Evd K ta σ H d) (h2 : Evd K tb σ H e) (h3 : Evd K tc σ H c)
    (q1 : ∀ x y H1, Rp K H1 x d → Rp K H1 y e → ∀ Q : VK, Q (.bl a) H1 → r x y H1 Q) (q2 : ∀ x y H1, Rp K H1 x e → Rp K H1 y c → ∀ Q : VK, Q (.bl b) H1 → r' x y H1 Q) : Evd K (tChain r r' ta tb tc) σ H (.bl (a && b)) := fun H1 x Q q =>
  h1 H1 x _ fun v H2 e2 r2 => h2 H2 (x.trans e2) _ fun w H3 e3 r3 => q1 v w H3 (r2.ex e3) r3 _ ⟨a, rfl, by
    cases a with
    | false =>
      show Q (.bl false) H3
      exact q _ H3 (e2.trans e3) (.bl _)
    | true =>
      show tc σ H3 _
      exact h3 H3 ((x.trans e2).trans e3) _ fun z H4 e4 r4 => q2 w z H4 (r3.ex e4) r4 Q (q _ H4 ((e2.trans e3).trans e4) (.bl _))⟩
/-- low <= x <= high -/
theorem evd_between {i j k : Int} (h1 : Evd K ta σ H (.int i)) (h2 : Evd K tb σ H (.int j)) (h3 : Evd K tc σ H (.int k)) : Evd K (tChain rLe rLe ta tb tc) σ H (.bl (decide (i ≤ j) && decide (j ≤ k))) :=
  evd_chain h1 h2 h3 (fun x y H1 rx ry Q q => ⟨i, j, rp_int rx, rp_int ry, q⟩) fun x y H1 rx ry Q q => ⟨j, k, rp_int rx, rp_int ry, q⟩
theorem evd_ifE {b : Bool} (h : EvT t σ H b) (h1 : b = true → Evd K ta σ H d) (h2 : b = false → Evd K tb σ H d) : Evd K (tIf t ta tb) σ H d := fun H1 x Q q => h H1 x _ fun H2 e2 => by
  cases b with
  | true =>
    show ta σ H2 Q
    exact h1 rfl H2 (x.trans e2) Q fun w H3 e3 r3 => q w H3 (e2.trans e3) r3
  | false =>
    show tb σ H2 Q
    exact h2 rfl H2 (x.trans e2) Q fun w H3 e3 r3 => q w H3 (e2.trans e3) r3
/-! ### calls of defs -/
theorem evf_call {R : List Dat → Dat → Prop} {ta : TA} {E : XK} (h : EvdA K ta σ H ds) (hr : R ds d) : Evf K (tCall (PureSp K R) [] E ta) σ H d := fun H1 x Q q =>
  h H1 x _ fun vs H2 e2 r => by
    show PureSp K R (vs ++ []) H2 Q E
    rw [List.append_nil]
    exact ⟨ds, d, r, hr, fun v H3 e3 r3 f => q v H3 (e2.trans e3) r3 (f.back e2)⟩
theorem evd_call {R : List Dat → Dat → Prop} {ta : TA} {E : XK} (h : EvdA K ta σ H ds) (hr : R ds d) : Evd K (tCall (PureSp K R) [] E ta) σ H d := (evf_call h hr).dd
/-! ### what is walked -/
def WalkD (K : PySem.W.Frag) (J : It) (items : List Dat) (G : Hp → Prop) : Prop :=
  ∃ Y, Walk J items.length G Y ∧ ∀ i Ha x Hb, G Ha → Y i Ha x Hb → Ex Ha Hb ∧ ∃ d, items[i]? = some d ∧ Rp K Hb x d
/-- wi walks the items, however the heap grows -/
def Src (K : PySem.W.Frag) (wi : TI) (σ : L2.St) (H : Hp) (items : List Dat) : Prop := ∀ H1, Ex H H1 → ∀ R : It → Hp → Prop, (∀ J H2, Ex H1 H2 → WalkD K J items (fun H' => Ex H2 H') → R J H2) → wi σ H1 R
theorem src_tup (h : Evd K tl σ H d) (s : IsT d ds) : Src K (iTup K tl) σ H ds := fun H1 x R q => h H1 x _ fun v H2 e2 r => by
  obtain ⟨a, xs, ea, ha, ra⟩ := rp_T r s
  refine ⟨a, ea, ⟨xs, ha⟩, q _ H2 e2 ⟨YAt xs, ?_, ?_⟩⟩
  · rw [← rpAll_len ra]
    exact walk_tup.mono (fun H' e => ex_t e ha) fun i Ha x Hb _ _ y => y
  · rintro i Ha x Hb g ⟨rfl, y⟩
    obtain ⟨d, h1, h2⟩ := rpAll_get ra y
    exact ⟨Ex.refl _, d, h1, h2.ex g⟩
theorem src_lst (h : Evd K tl σ H (.lst ds)) : Src K (iList K tl) σ H ds := fun H1 x R q => h H1 x _ fun v H2 e2 r => by
  obtain ⟨a, xs, ea, ha, ra⟩ := rp_L r
  refine ⟨a, ea, ⟨xs, SqL.of ha⟩, q _ H2 e2 ⟨YAt xs, ?_, ?_⟩⟩
  · rw [← rpAll_len ra]
    exact walk_list.mono (fun H' e => ex_l e (SqL.of ha)) fun i Ha x Hb _ _ y => y
  · rintro i Ha x Hb g ⟨rfl, y⟩
    obtain ⟨d, h1, h2⟩ := rpAll_get ra y
    exact ⟨Ex.refl _, d, h1, h2.ex g⟩
def signsD (z : Str) : List Dat := z.cps.toList.map fun c => .str ⟨#[c]⟩
theorem src_str {z : Str} (h : Evd K tl σ H (.str z)) : Src K (iStr tl) σ H (signsD z) := fun H1 x R q => h H1 x _ fun v H2 e2 r => by
  refine ⟨z, rp_str r, q _ H2 e2 ⟨fun i H v H' => H' = H ∧ ∃ c, z.cps[i]? = some c ∧ v = .str ⟨#[c]⟩, ?_, ?_⟩⟩
  · unfold signsD
    rw [List.length_map, Array.length_toList]
    exact walk_str.mono (fun H' e => trivial) fun i Ha x Hb _ _ y => y
  · rintro i Ha x Hb g ⟨rfl, c, y, rfl⟩
    exact ⟨Ex.refl _, _, by unfold signsD; rw [List.getElem?_map, Array.getElem?_toList, y]; rfl, .str _⟩
def rangeD (n : Nat) : List Dat := (List.range n).map fun i => .int (i : Nat)
theorem src_range {n : Int} (h : Evd K tl σ H (.int n)) (z : n ≤ 1000000 := by omega) (z0 : -1000000 ≤ n := by omega) : Src K (iRng1 (tCons tl tNil)) σ H (rangeD n.toNat) := fun H1 x R q => h H1 x _ fun v H2 e2 r => by
  refine ⟨n, by rw [rp_int r], by omega, by omega, q _ H2 e2 ⟨fun i Ha x Hb => i < n.toNat ∧ Hb = Ha ∧ x = .int (i : Nat), ?_, ?_⟩⟩
  · unfold rangeD
    rw [List.length_map, List.length_range]
    exact ⟨fun _ _ hi _ => hi, fun _ _ => Nat.le_refl _, fun i Ha x Hb hi _ y => ⟨hi, y.1, by rw [y.2, Int.zero_add]⟩⟩
  · rintro i Ha x Hb g ⟨hi, rfl, rfl⟩
    refine ⟨Ex.refl _, _, ?_, .int _⟩
    unfold rangeD
    rw [List.getElem?_map, List.getElem?_range hi]
    rfl
def enumD (ds : List Dat) : List Dat := ds.mapIdx fun i d => .tup [.int (i : Nat), d]
theorem src_enum (h : Evd K tl σ H d) (s : IsT d ds) : Src K (iEnumT K (tCons tl tNil)) σ H (enumD ds) := fun H1 x R q => h H1 x _ fun v H2 e2 r => by
  obtain ⟨a, xs, ea, ha, ra⟩ := rp_T r s
  refine ⟨a, xs, by rw [ea], ha, q _ H2 e2 ⟨YPair (fun i => some (.int (i : Nat))) (fun i => xs[i]?), ?_, ?_⟩⟩
  · unfold enumD
    rw [List.length_mapIdx, ← rpAll_len ra]
    refine ⟨fun i H' hi g => ⟨xs, xs[i], ex_t g ha, List.getElem?_eq_getElem hi⟩, fun H' g => ⟨xs, ex_t g ha, Nat.le_refl _⟩, fun i Ha x Hb _ g y => ?_⟩
    obtain ⟨T, z, h1, h2, h3, h4⟩ := y
    exact ⟨T, _, z, h1, h2, h3, rfl, h4 xs (ex_t g ha)⟩
  · rintro i Ha x Hb g ⟨T, z, y, rfl, hT, rfl, ez, ey⟩
    cases ez
    obtain ⟨d, h1, h2⟩ := rpAll_get ra ey
    refine ⟨Ex.new hT, .tup [.int (i : Nat), d], by unfold enumD; rw [List.getElem?_mapIdx, h1]; rfl, .tup (st_of upd_same) (.cons (.int _) (.cons ((h2.ex g).ex (Ex.new hT)) .nil))⟩
/-! ### comprehensions -/
/-- the target takes x, then the slots are σ2 -/
def Tgt (g : TG) (x : V) (σ : L2.St) (H : Hp) (σ2 : L2.St) : Prop := ∀ Q : L2.St → Hp → Prop, Q σ2 H → g x σ H Q
theorem tgt1 {i : Nat} {x : V} : Tgt (gName i) x σ H (σ.set i (some x)) := fun _ q => q
theorem tgt2 {i j : Nat} {x : V} {a b : Dat} (r : Rp K H x d) (s : IsT d [a, b]) :
    ∃ v1 v2, Rp K H v1 a ∧ Rp K H v2 b ∧ ∀ σ, Tgt (gTup K 2 (gCons (gName i) (gCons (gName j) gNil))) x σ H ((σ.set i (some v1)).set j (some v2)) := by
  obtain ⟨p, xs, ea, ha, ra⟩ := rp_T r s
  cases ra with
  | cons r1 ra =>
    cases ra with
    | cons r2 ra =>
      cases ra
      exact ⟨_, _, r1, r2, fun σ Q q => ⟨p, _, ea, ha, rfl, _, _, rfl, _, _, rfl, rfl, q⟩⟩
theorem tgt3 {i j k : Nat} {x : V} {a b c : Dat} (r : Rp K H x d) (s : IsT d [a, b, c]) :
    ∃ v1 v2 v3, Rp K H v1 a ∧ Rp K H v2 b ∧ Rp K H v3 c ∧ ∀ σ, Tgt (gTup K 3 (gCons (gName i) (gCons (gName j) (gCons (gName k) gNil)))) x σ H (((σ.set i (some v1)).set j (some v2)).set k (some v3)) := by
  obtain ⟨p, xs, ea, ha, ra⟩ := rp_T r s
  cases ra with
  | cons r1 ra =>
    cases ra with
    | cons r2 ra =>
      cases ra with
      | cons r3 ra =>
        cases ra
        exact ⟨_, _, _, r1, r2, r3, fun σ Q q => ⟨p, _, ea, ha, rfl, _, _, rfl, _, _, rfl, _, _, rfl, rfl, q⟩⟩
theorem tgt4 {i j k l : Nat} {x : V} {a b c e : Dat} (r : Rp K H x d) (s : IsT d [a, b, c, e]) :
    ∃ v1 v2 v3 v4, Rp K H v1 a ∧ Rp K H v2 b ∧ Rp K H v3 c ∧ Rp K H v4 e ∧
      ∀ σ, Tgt (gTup K 4 (gCons (gName i) (gCons (gName j) (gCons (gName k) (gCons (gName l) gNil))))) x σ H ((((σ.set i (some v1)).set j (some v2)).set k (some v3)).set l (some v4)) := by
  obtain ⟨p, xs, ea, ha, ra⟩ := rp_T r s
  cases ra with
  | cons r1 ra =>
    cases ra with
    | cons r2 ra =>
      cases ra with
      | cons r3 ra =>
        cases ra with
        | cons r4 ra =>
          cases ra
          exact ⟨_, _, _, _, r1, r2, r3, r4, fun σ Q q => ⟨p, _, ea, ha, rfl, _, _, rfl, _, _, rfl, _, _, rfl, _, _, rfl, rfl, q⟩⟩
theorem tgt5 {i j k l m : Nat} {x : V} {a b c e f : Dat} (r : Rp K H x d) (s : IsT d [a, b, c, e, f]) :
    ∃ v1 v2 v3 v4 v5, Rp K H v1 a ∧ Rp K H v2 b ∧ Rp K H v3 c ∧ Rp K H v4 e ∧ Rp K H v5 f ∧
      ∀ σ, Tgt (gTup K 5 (gCons (gName i) (gCons (gName j) (gCons (gName k) (gCons (gName l) (gCons (gName m) gNil)))))) x σ H (((((σ.set i (some v1)).set j (some v2)).set k (some v3)).set l (some v4)).set m (some v5)) := by
  obtain ⟨p, xs, ea, ha, ra⟩ := rp_T r s
  cases ra with
  | cons r1 ra =>
    cases ra with
    | cons r2 ra =>
      cases ra with
      | cons r3 ra =>
        cases ra with
        | cons r4 ra =>
          cases ra with
          | cons r5 ra =>
            cases ra
            exact ⟨_, _, _, _, _, r1, r2, r3, r4, r5, fun σ Q q => ⟨p, _, ea, ha, rfl, _, _, rfl, _, _, rfl, _, _, rfl, _, _, rfl, _, _, rfl, rfl, q⟩⟩
/-- over a row of things, no test -/
theorem evf_lcM {α : Type} {xs : List α} (enc f : α → Dat) {wi : TI} {g : TG} {vs : List Nat} (s : Src K wi σ H (xs.map enc)) (len : xs.length ≤ 1000) (st : ∀ a, a ∈ xs → (f a).still = true)
    (body : ∀ a, a ∈ xs → ∀ x H1, Ex H H1 → Rp K H1 x (enc a) → ∃ σ2, Tgt g x (wipe σ vs) H1 σ2 ∧ wipe σ2 vs = wipe σ vs ∧ Evd K te σ2 H1 (f a)) :
    Evf K (tLc wi g tYes te vs) σ H (.lst (xs.map f)) := fun H1 x Q q => s H1 x _ fun J H2 e2 w => fun D hD => by
  obtain ⟨Y, w, y⟩ := w
  have len' : (xs.map enc).length = xs.length := List.length_map _
  refine lc_it w (fun i H' => H2 D = none ∧ Ex H2 H' ∧ ∃ acc, H' D = some (.lst acc) ∧ RpAll K H' acc ((xs.take i).map f)) ⟨hD, Ex.new hD, [], upd_same, .nil⟩ (fun i H' _ p => p.2.1) ?_ ?_
  · rintro i z Ha Hb hi ⟨hD, ea, acc, hacc, racc⟩ yy
    obtain ⟨eab, d, hd, rd⟩ := y i Ha z Hb ea yy
    rw [List.getElem?_map] at hd
    cases ha : xs[i]? with
    | none =>
      rw [ha] at hd
      cases hd
    | some a =>
    rw [ha] at hd
    cases hd
    have m : a ∈ xs := List.mem_of_getElem? ha
    obtain ⟨σ2, hg, hw, he⟩ := body a m z Hb ((x.trans e2).trans (ea.trans eab)) rd
    have tk : xs.take (i + 1) = xs.take i ++ [a] := by rw [List.take_add_one, ha]; rfl
    refine hg _ ⟨hw, et_yes (σ := σ2) (H := Hb) Hb (Ex.refl Hb) _ fun Hc ec => ?_⟩
    refine L2.iteT ?_
    have la := rpAll_len racc
    rw [List.length_map, List.length_take] at la
    refine he Hc ec _ fun v Hd ed rv => ⟨acc, ed _ _ (ec _ _ (eab _ _ hacc)), by have := big16; omega, hD, Ex.mut (((ea.trans eab).trans ec).trans ed) hD, acc ++ [v], upd_same, ?_⟩
    rw [tk, List.map_append]
    have r2 := rpAll_app (racc.ex (eab.trans (ec.trans ed))) (RpAll.cons rv .nil)
    refine r2.ton (Ton.upd (Ton.refl Hd) (ed _ _ (ec _ _ (eab _ _ hacc)))) (still_all fun e' m' => ?_)
    rcases List.mem_append.mp m' with m' | m'
    · obtain ⟨a', ma, ea'⟩ := List.mem_map.mp m'
      rw [← ea']
      exact st a' (List.mem_of_mem_take ma)
    · rw [List.mem_singleton.mp m']
      exact st a m
  · rintro H' ⟨hD, ea, acc, hacc, racc⟩
    rw [len', List.take_length] at racc
    exact q _ H' (e2.trans ea) (.lst hacc racc) (frs_new (fresh_back e2 hD))
/-- .. those that pass a test -/
theorem evf_lcF {α : Type} {xs : List α} (enc f : α → Dat) (p : α → Bool) {wi : TI} {g : TG} {tt : TT} {vs : List Nat} (s : Src K wi σ H (xs.map enc)) (len : xs.length ≤ 1000) (st : ∀ a, a ∈ xs → (f a).still = true)
    (body : ∀ a, a ∈ xs → ∀ x H1, Ex H H1 → Rp K H1 x (enc a) → ∃ σ2, Tgt g x (wipe σ vs) H1 σ2 ∧ wipe σ2 vs = wipe σ vs ∧ EvT tt σ2 H1 (p a) ∧ (p a = true → Evd K te σ2 H1 (f a))) :
    Evf K (tLc wi g tt te vs) σ H (.lst ((xs.filter p).map f)) := fun H1 x Q q => s H1 x _ fun J H2 e2 w => fun D hD => by
  obtain ⟨Y, w, y⟩ := w
  have len' : (xs.map enc).length = xs.length := List.length_map _
  refine lc_it w (fun i H' => H2 D = none ∧ Ex H2 H' ∧ ∃ acc, H' D = some (.lst acc) ∧ RpAll K H' acc (((xs.take i).filter p).map f)) ⟨hD, Ex.new hD, [], upd_same, .nil⟩ (fun i H' _ p => p.2.1) ?_ ?_
  · rintro i z Ha Hb hi ⟨hD, ea, acc, hacc, racc⟩ yy
    obtain ⟨eab, d, hd, rd⟩ := y i Ha z Hb ea yy
    rw [List.getElem?_map] at hd
    cases ha : xs[i]? with
    | none =>
      rw [ha] at hd
      cases hd
    | some a =>
    rw [ha] at hd
    cases hd
    have m : a ∈ xs := List.mem_of_getElem? ha
    obtain ⟨σ2, hg, hw, ht, he⟩ := body a m z Hb ((x.trans e2).trans (ea.trans eab)) rd
    have tk : xs.take (i + 1) = xs.take i ++ [a] := by rw [List.take_add_one, ha]; rfl
    refine hg _ ⟨hw, ht Hb (Ex.refl Hb) _ fun Hc ec => ?_⟩
    cases hp : p a with
    | false =>
      refine L2.iteF ?_
      refine ⟨hD, (ea.trans eab).trans ec, acc, ec _ _ (eab _ _ hacc), ?_⟩
      rw [tk, List.filter_append]
      simp only [List.filter_cons, hp, List.filter_nil, List.append_nil, Bool.false_eq_true, if_false]
      exact racc.ex (eab.trans ec)
    | true =>
    refine L2.iteT ?_
    have la := rpAll_len racc
    rw [List.length_map] at la
    have lb := List.length_filter_le p (xs.take i)
    rw [List.length_take] at lb
    refine he hp Hc ec _ fun v Hd ed rv => ⟨acc, ed _ _ (ec _ _ (eab _ _ hacc)), by have := big16; omega, hD, Ex.mut (((ea.trans eab).trans ec).trans ed) hD, acc ++ [v], upd_same, ?_⟩
    rw [tk, List.filter_append]
    simp only [List.filter_cons, hp, List.filter_nil, if_true, List.map_append, List.map_cons, List.map_nil]
    have r2 := rpAll_app (racc.ex (eab.trans (ec.trans ed))) (RpAll.cons rv .nil)
    refine r2.ton (Ton.upd (Ton.refl Hd) (ed _ _ (ec _ _ (eab _ _ hacc)))) (still_all fun e' m' => ?_)
    rcases List.mem_append.mp m' with m' | m'
    · obtain ⟨a', ma, ea'⟩ := List.mem_map.mp m'
      rw [← ea']
      exact st a' (List.mem_of_mem_take (List.mem_filter.mp ma).1)
    · rw [List.mem_singleton.mp m']
      exact st a m
  · rintro H' ⟨hD, ea, acc, hacc, racc⟩
    rw [len', List.take_length] at racc
    exact q _ H' (e2.trans ea) (.lst hacc racc) (frs_new (fresh_back e2 hD))
end
end Lib

/-! statements -/
namespace Lib
open PySem L2 PySem.Spec PyProof.Rows Evl
section
variable {K : PySem.W.Frag} {σ : L2.St} {H H' H0 : Hp} {ta tb tc te tl : TE} {t u : TT} {d e : Dat} {ds es : List Dat} {D : Ends} {tu tw tz : TS} {g : TG}
theorem d_ret (h : Evf K te σ H d) (x : Ex H0 H) (k : ∀ v H', Ex H0 H' → Rp K H' v d → Frs H0 v d → D.rt v H') : tRet te D σ H := h.go fun v H1 e1 r f => k v H1 (x.trans e1) r (f.back x)
theorem d_set {i : Nat} (h : Evd K te σ H d) (k : ∀ v H1, Ex H H1 → Rp K H1 v d → D.nx (σ.set i (some v)) H1) : tAsg te (gName i) D σ H := h.go k
theorem q_set {i : Nat} (h : Evd K te σ H d) (k : ∀ v H1, Ex H H1 → Rp K H1 v d → tz D (σ.set i (some v)) H1) : tSeq (tAsg te (gName i)) tz D σ H := d_set (D := { D with nx := tz D }) h k
theorem d_setF {i : Nat} (h : Evf K te σ H d) (k : ∀ v H1, Ex H H1 → Rp K H1 v d → Frs H v d → D.nx (σ.set i (some v)) H1) : tAsg te (gName i) D σ H := h.go k
theorem q_setF {i : Nat} (h : Evf K te σ H d) (k : ∀ v H1, Ex H H1 → Rp K H1 v d → Frs H v d → tz D (σ.set i (some v)) H1) : tSeq (tAsg te (gName i)) tz D σ H := d_setF (D := { D with nx := tz D }) h k
theorem q_unp (h : Evd K te σ H d) (k : ∀ v H1, Ex H H1 → Rp K H1 v d → ∃ σ2, Tgt g v σ H1 σ2 ∧ tz D σ2 H1) : tSeq (tAsg te g) tz D σ H := h.go fun v H1 e1 r => by
  obtain ⟨σ2, hg, hz⟩ := k v H1 e1 r
  exact hg _ hz
/-- an if whose way is taken by b; the else goes on -/
theorem d_when {b : Bool} (h : EvT t σ H b) (h1 : b = true → ∀ H1, Ex H H1 → tu D σ H1) (h2 : b = false → ∀ H1, Ex H H1 → D.nx σ H1) : tIfS t tu tNext D σ H := s_if h h1 h2
theorem d_drop (h : Evd K te σ H d) (k : ∀ H1, Ex H H1 → D.nx σ H1) : tDrop te D σ H := h.go fun v H1 e1 _ => k H1 e1
theorem q_dropD (h : Evd K te σ H d) (k : ∀ H1, Ex H H1 → tz D σ H1) : tSeq (tDrop te) tz D σ H := d_drop (D := { D with nx := tz D }) h k
/-- xs.append(e), xs a list of the def's own -/
theorem d_app {i : Nat} {p : Addr} {xs : List V} (hi : σ[i]? = some (some (.ref p))) (hp : H p = some (.lst xs)) (len : xs.length < 1000) (h : Evd K te σ H d) (k : ∀ v H1, Ex H H1 → Rp K H1 v d → D.nx σ (upd H1 p (.lst (xs ++ [v])))) :
    tDrop (tBM K "list" rAppend (tVar i) (tCons te tNil)) D σ H :=
  ⟨_, hi, Or.inl ⟨rfl, xs, SqL.of hp⟩, h.go fun v H1 e1 r => ⟨p, xs, v, rfl, rfl, e1 _ _ hp, by have := big16; omega, k v H1 e1 r⟩⟩
theorem q_appD {i : Nat} {p : Addr} {xs : List V} (hi : σ[i]? = some (some (.ref p))) (hp : H p = some (.lst xs)) (len : xs.length ≤ 900) (h : Evd K te σ H d) (k : ∀ v H1, Ex H H1 → Rp K H1 v d → tz D σ (upd H1 p (.lst (xs ++ [v])))) :
    tSeq (tDrop (tBM K "list" rAppend (tVar i) (tCons te tNil))) tz D σ H := d_app (D := { D with nx := tz D }) hi hp (by omega) h k
/-- xs.extend(ys), ys a list -/
theorem d_ext {i : Nat} {p : Addr} {xs : List V} (hi : σ[i]? = some (some (.ref p))) (hp : H p = some (.lst xs)) (h : Evd K te σ H (.lst ds)) (len : xs.length + ds.length ≤ 1000)
    (k : ∀ ys H1, Ex H H1 → RpAll K H1 ys ds → D.nx σ (upd H1 p (.lst (xs ++ ys)))) : tDrop (tBM K "list" rExtend (tVar i) (tCons te tNil)) D σ H :=
  ⟨_, hi, Or.inl ⟨rfl, xs, SqL.of hp⟩, h.go fun v H1 e1 r => by
    obtain ⟨a, ys, ea, ha, ra⟩ := rp_L r
    refine ⟨p, a, xs, ys, rfl, by rw [ea], e1 _ _ hp, ha, ?_, k ys H1 e1 ra⟩
    rw [rpAll_len ra]
    exact Nat.le_trans len big16⟩
/-- xs.extend(ys), ys a tuple -/
theorem d_extT {i : Nat} {p : Addr} {xs : List V} (hi : σ[i]? = some (some (.ref p))) (hp : H p = some (.lst xs)) (h : Evd K te σ H d) (s : IsT d ds) (len : xs.length + ds.length ≤ 1000)
    (k : ∀ ys H1, Ex H H1 → RpAll K H1 ys ds → D.nx σ (upd H1 p (.lst (xs ++ ys)))) : tDrop (tBM K "list" (rExtendT K) (tVar i) (tCons te tNil)) D σ H :=
  ⟨_, hi, Or.inl ⟨rfl, xs, SqL.of hp⟩, h.go fun v H1 e1 r => by
    obtain ⟨a, ys, ea, ha, ra⟩ := rp_T r s
    refine ⟨p, a, xs, ys, rfl, by rw [ea], e1 _ _ hp, ha, ?_, k ys H1 e1 ra⟩
    rw [rpAll_len ra]
    exact len⟩
/-! ### loops -/
theorem d_forT (h : Evd K tl σ H d) (s : IsT d ds) (st : stillAll ds = true) (Pv : Nat → L2.St → Hp → Prop) (h0 : ∀ H1, Ex H H1 → Pv 0 σ H1)
    (hs : ∀ (i : Nat) di x σ' H', ds[i]? = some di → Pv i σ' H' → Rp K H' x di → g x σ' H' fun σ2 H2 =>
      tu { D with nx := fun σ3 H3 => Ton H' H3 ∧ Pv (i + 1) σ3 H3, ct := fun σ3 H3 => Ton H' H3 ∧ Pv (i + 1) σ3 H3, bk := D.nx } σ2 H2)
    (hd : ∀ σ' H', Pv ds.length σ' H' → D.nx σ' H') : tFor (iTup K tl) g tu D σ H := h.go fun v H1 e1 r => by
  obtain ⟨a, xs, ea, ha, ra⟩ := rp_T r s
  refine ⟨a, ea, ⟨xs, ha⟩, ?_⟩
  refine ⟨fun i m σ' H' => m = xs.length - i ∧ i ≤ xs.length ∧ Ton H1 H' ∧ Pv i σ' H', ⟨xs.length, by simp, Nat.zero_le _, Ton.refl _, h0 H1 e1⟩, ?_⟩
  rintro i m σ' Ha ⟨rfl, hi, ton, p⟩
  have q := sqt_ton ton ha
  by_cases hlt : i < xs.length
  · have hlt' : i < ds.length := by rw [← rpAll_len ra]; exact hlt
    refine .inr ⟨⟨xs, xs[i], q, List.getElem?_eq_getElem hlt⟩, fun σ3 H3 => Ton Ha H3 ∧ Pv (i + 1) σ3 H3, fun σ3 H3 ⟨t3, p3⟩ => ⟨xs.length - (i + 1), by omega, rfl, hlt, ton.trans t3, p3⟩, fun x Hb y => ?_⟩
    obtain ⟨eb, y⟩ := y
    subst eb
    obtain ⟨di, h1, h2⟩ := rpAll_get ra (y xs q)
    exact hs i di x σ' _ h1 p (h2.ton ton (still_mem st (List.mem_of_getElem? h1)))
  · have e : i = xs.length := by omega
    subst e
    rw [rpAll_len ra] at p
    exact .inl ⟨⟨xs, q, Nat.le_refl _⟩, hd _ _ p⟩
theorem q_forTD (h : Evd K tl σ H d) (s : IsT d ds) (st : stillAll ds = true) (Pv : Nat → L2.St → Hp → Prop) (h0 : ∀ H1, Ex H H1 → Pv 0 σ H1)
    (hs : ∀ (i : Nat) di x σ' H', ds[i]? = some di → Pv i σ' H' → Rp K H' x di → g x σ' H' fun σ2 H2 =>
      tu { D with nx := fun σ3 H3 => Ton H' H3 ∧ Pv (i + 1) σ3 H3, ct := fun σ3 H3 => Ton H' H3 ∧ Pv (i + 1) σ3 H3, bk := tz D } σ2 H2)
    (hd : ∀ σ' H', Pv ds.length σ' H' → tz D σ' H') : tSeq (tFor (iTup K tl) g tu) tz D σ H := d_forT (D := { D with nx := tz D }) h s st Pv h0 hs hd
/-- over a list; a, xs: where it stands -/
theorem d_forL (h : Evf K tl σ H (.lst ds)) (st : stillAll ds = true) (Pv : Addr → List V → Nat → L2.St → Hp → Prop) (h0 : ∀ a xs H1, Ex H H1 → H a = none → H1 a = some (.lst xs) → RpAll K H1 xs ds → Pv a xs 0 σ H1)
    (hl : ∀ a xs (i : Nat) σ' H', Pv a xs i σ' H' → H' a = some (.lst xs))
    (hs : ∀ a xs (i : Nat) di x σ' H', ds[i]? = some di → Pv a xs i σ' H' → Rp K H' x di → g x σ' H' fun σ2 H2 =>
      tu { D with nx := fun σ3 H3 => Ton H' H3 ∧ Pv a xs (i + 1) σ3 H3, ct := fun σ3 H3 => Ton H' H3 ∧ Pv a xs (i + 1) σ3 H3, bk := D.nx } σ2 H2)
    (hd : ∀ a xs σ' H', Pv a xs ds.length σ' H' → D.nx σ' H') : tFor (iList K tl) g tu D σ H := h.go fun v H1 e1 r f => by
  obtain ⟨a, xs, ea, ha, ra⟩ := rp_L r
  obtain ⟨a', ea', fa⟩ := f ds rfl
  rw [ea] at ea'
  cases ea'
  refine ⟨a, ea, ⟨xs, SqL.of ha⟩, ?_⟩
  refine ⟨fun i m σ' H' => m = xs.length - i ∧ i ≤ xs.length ∧ Ton H1 H' ∧ Pv a xs i σ' H', ⟨xs.length, by simp, Nat.zero_le _, Ton.refl _, h0 a xs H1 e1 fa ha ra⟩, ?_⟩
  rintro i m σ' Ha ⟨rfl, hi, ton, p⟩
  have q : SqL K Ha a xs := SqL.of (hl a xs i σ' Ha p)
  by_cases hlt : i < xs.length
  · refine .inr ⟨⟨xs, xs[i], q, List.getElem?_eq_getElem hlt⟩, fun σ3 H3 => Ton Ha H3 ∧ Pv a xs (i + 1) σ3 H3, fun σ3 H3 ⟨t3, p3⟩ => ⟨xs.length - (i + 1), by omega, rfl, hlt, ton.trans t3, p3⟩, fun x Hb y => ?_⟩
    obtain ⟨eb, y⟩ := y
    subst eb
    obtain ⟨di, h1, h2⟩ := rpAll_get ra (y xs q)
    exact hs a xs i di x σ' _ h1 p (h2.ton ton (still_mem st (List.mem_of_getElem? h1)))
  · have e : i = xs.length := by omega
    subst e
    rw [rpAll_len ra] at p
    exact .inl ⟨⟨xs, q, Nat.le_refl _⟩, hd _ _ _ _ p⟩
theorem q_forLD (h : Evf K tl σ H (.lst ds)) (st : stillAll ds = true) (Pv : Addr → List V → Nat → L2.St → Hp → Prop) (h0 : ∀ a xs H1, Ex H H1 → H a = none → H1 a = some (.lst xs) → RpAll K H1 xs ds → Pv a xs 0 σ H1)
    (hl : ∀ a xs (i : Nat) σ' H', Pv a xs i σ' H' → H' a = some (.lst xs))
    (hs : ∀ a xs (i : Nat) di x σ' H', ds[i]? = some di → Pv a xs i σ' H' → Rp K H' x di → g x σ' H' fun σ2 H2 =>
      tu { D with nx := fun σ3 H3 => Ton H' H3 ∧ Pv a xs (i + 1) σ3 H3, ct := fun σ3 H3 => Ton H' H3 ∧ Pv a xs (i + 1) σ3 H3, bk := tz D } σ2 H2)
    (hd : ∀ a xs σ' H', Pv a xs ds.length σ' H' → tz D σ' H') : tSeq (tFor (iList K tl) g tu) tz D σ H := d_forL (D := { D with nx := tz D }) h st Pv h0 hl hs hd
/-- over a list that stands at a name -/
theorem d_forV {i0 : Nat} {a : Addr} {xs : List V} (hi : σ[i0]? = some (some (.ref a))) (ha : H a = some (.lst xs)) (ra : RpAll K H xs ds) (st : stillAll ds = true) (Pv : Nat → L2.St → Hp → Prop) (h0 : Pv 0 σ H)
    (hl : ∀ (i : Nat) σ' H', Pv i σ' H' → H' a = some (.lst xs))
    (hs : ∀ (i : Nat) di x σ' H', ds[i]? = some di → Pv i σ' H' → Rp K H' x di → g x σ' H' fun σ2 H2 =>
      tu { D with nx := fun σ3 H3 => Ton H' H3 ∧ Pv (i + 1) σ3 H3, ct := fun σ3 H3 => Ton H' H3 ∧ Pv (i + 1) σ3 H3, bk := D.nx } σ2 H2)
    (hd : ∀ σ' H', Pv ds.length σ' H' → D.nx σ' H') : tFor (iList K (tVar i0)) g tu D σ H := by
  refine ⟨_, hi, a, rfl, ⟨xs, SqL.of ha⟩, ?_⟩
  refine ⟨fun i m σ' H' => m = xs.length - i ∧ i ≤ xs.length ∧ Ton H H' ∧ Pv i σ' H', ⟨xs.length, by simp, Nat.zero_le _, Ton.refl _, h0⟩, ?_⟩
  rintro i m σ' Ha ⟨rfl, hi, ton, p⟩
  have q : SqL K Ha a xs := SqL.of (hl i σ' Ha p)
  by_cases hlt : i < xs.length
  · refine .inr ⟨⟨xs, xs[i], q, List.getElem?_eq_getElem hlt⟩, fun σ3 H3 => Ton Ha H3 ∧ Pv (i + 1) σ3 H3, fun σ3 H3 ⟨t3, p3⟩ => ⟨xs.length - (i + 1), by omega, rfl, hlt, ton.trans t3, p3⟩, fun x Hb y => ?_⟩
    obtain ⟨eb, y⟩ := y
    subst eb
    obtain ⟨di, h1, h2⟩ := rpAll_get ra (y xs q)
    exact hs i di x σ' _ h1 p (h2.ton ton (still_mem st (List.mem_of_getElem? h1)))
  · have e : i = xs.length := by omega
    subst e
    rw [rpAll_len ra] at p
    exact .inl ⟨⟨xs, q, Nat.le_refl _⟩, hd _ _ p⟩
theorem d_forR {j : Nat} {n : Int} (h : Evd K tl σ H (.int n)) (z : n ≤ 1000000) (z0 : -1000000 ≤ n) (Pv : Nat → L2.St → Hp → Prop) (h0 : ∀ H1, Ex H H1 → Pv 0 σ H1)
    (hs : ∀ (i : Nat) σ' H', (i : Int) < n → Pv i σ' H' → tu { D with nx := Pv (i + 1), ct := Pv (i + 1), bk := D.nx } (σ'.set j (some (.int (i : Int)))) H')
    (hd : ∀ σ' H', Pv n.toNat σ' H' → D.nx σ' H') : tFor (iRng1 (tCons tl tNil)) (gName j) tu D σ H := h.go fun v H1 e1 r => by
  refine ⟨n, by rw [rp_int r], by omega, by omega, ?_⟩
  refine for_range (lo := 0) (n := n.toNat) Pv (h0 H1 e1) (fun i σ' H' hi p => ?_) hd
  have q := hs i σ' H' (by omega) p
  have e0 : (0 : Int) + (i : Int) = (i : Int) := Int.zero_add _
  show tu _ (σ'.set j (some (.int ((0 : Int) + (i : Int))))) H'
  rw [e0]
  exact q
theorem q_forRD {j : Nat} {n : Int} (h : Evd K tl σ H (.int n)) (z : n ≤ 1000000) (z0 : -1000000 ≤ n) (Pv : Nat → L2.St → Hp → Prop) (h0 : ∀ H1, Ex H H1 → Pv 0 σ H1)
    (hs : ∀ (i : Nat) σ' H', (i : Int) < n → Pv i σ' H' → tu { D with nx := Pv (i + 1), ct := Pv (i + 1), bk := tz D } (σ'.set j (some (.int (i : Int)))) H')
    (hd : ∀ σ' H', Pv n.toNat σ' H' → tz D σ' H') : tSeq (tFor (iRng1 (tCons tl tNil)) (gName j) tu) tz D σ H := d_forR (D := { D with nx := tz D }) h z z0 Pv h0 hs hd
end
/-! ### a def by its reading -/
section
variable {P : Program} {w : World} {K : PySem.W.Frag} {mg : Str → Option Value} {base : Heap}
/-- the def x of the text stands where the top has put it -/
structure Df (K : PySem.W.Frag) (mg : Str → Option Value) (x : Str) (st : Stmt) (ps : List Str) : Prop where
  ex : ∃ (f : Addr) (fd : FuncData), Fun K x x st f fd ∧ mg x = some (.ref f) ∧ Binds K fd ps []
abbrev RunsTo (P : Program) (w : World) (K : PySem.W.Frag) (mg : Str → Option Value) (base : Heap) (N : List Str) (x : Str) (st : Stmt) (k : Nat) (t : TS) : Prop :=
  ∀ (f : Addr) (cdv : Value) (A : Around) (outer : List Env) (s : Shared) (H : Hp) (E : XK), Room k (A.deeper (envOfC x (defScope st) s.heap.objs.size f cdv)) →
    PSs (cxOf CX0 P w K mg base N x (defScope st) f cdv A outer s H E).nox (defBody st) t
theorem cal_of {x : Str} {st : Stmt} {N ps : List Str} {k : Nat} {sp : Sp} {t : TS} (D : Df K mg x st ps) (S : FnScope N ps (defScope st)) (dv : RunsTo P w K mg base N x st k t) (len : ∀ vs H Q E, sp vs H Q E → vs.length = ps.length)
    (rd : ∀ vs H Q E, sp vs H Q E → t { nx := fun _ H' => Q .non H', rt := Q } (start N vs) H) : C8.Cal P w K mg base (k + 1) x sp [] := by
  obtain ⟨f, fd, F, hm, b⟩ := D.ex
  refine ⟨f, fd, ps, [], F.ok S len (fun cdv A outer s H vs Q E hr h => ⟨t, dv f cdv A outer s H E hr, rd vs H Q E h⟩), hm, F.kp, b, .nil⟩
/-- what the top leaves of Python's own names -/
structure Tops (K : PySem.W.Frag) (mg : Str → Option Value) : Prop where
  z_isinstance : mg "isinstance" = none
  z_int : mg "int" = none
  z_bool : mg "bool" = none
  z_str : mg "str" = none
  z_tuple : mg "tuple" = none
  z_list : mg "list" = none
  z_len : mg "len" = none
  z_all : mg "all" = none
  z_any : mg "any" = none
  z_sum : mg "sum" = none
  z_range : mg "range" = none
  z_dict : mg "dict" = none
  z_enumerate : mg "enumerate" = none
  z_sorted : mg "sorted" = none
  z_set : mg "set" = none
  mSMALL : ∃ tk, mg "SMALL" = some (.str "abcdefghijklmnopqrstuvwxyz" tk)
  mGREAT : ∃ tk, mg "GREAT" = some (.str "ABCDEFGHIJKLMNOPQRSTUVWXYZ" tk)
abbrev sSMALL : Str := "abcdefghijklmnopqrstuvwxyz"
abbrev sGREAT : Str := "ABCDEFGHIJKLMNOPQRSTUVWXYZ"
theorem bt_isinstance : bootBuiltins "isinstance" = some (.builtin "isinstance") := by decide +kernel
theorem bt_int : bootBuiltins "int" = some (.type "int") := by decide +kernel
theorem bt_bool : bootBuiltins "bool" = some (.type "bool") := by decide +kernel
theorem bt_str : bootBuiltins "str" = some (.type "str") := by decide +kernel
theorem bt_tuple : bootBuiltins "tuple" = some (.type "tuple") := by decide +kernel
theorem bt_list : bootBuiltins "list" = some (.type "list") := by decide +kernel
theorem bt_len : bootBuiltins "len" = some (.builtin "len") := by decide +kernel
theorem bt_all : bootBuiltins "all" = some (.builtin "all") := by decide +kernel
theorem bt_any : bootBuiltins "any" = some (.builtin "any") := by decide +kernel
theorem bt_sum : bootBuiltins "sum" = some (.builtin "sum") := by decide +kernel
theorem bt_dict : bootBuiltins "dict" = some (.type "dict") := by decide +kernel
theorem bt_sorted : bootBuiltins "sorted" = some (.builtin "sorted") := by decide +kernel
theorem bt_set : bootBuiltins "set" = some (.type "set") := by decide +kernel
theorem pe_str_of {X : Cx} {x s : Str} {pos : Pos} (hg : Gl X x) (hm : ∃ tk, X.mg x = some (.str s tk)) (hd : (x == ("__debug__" : Str)) = false := by decide) : PE X (.Name x pos) (tC (.str s)) := by
  obtain ⟨tk, hm⟩ := hm
  exact pe_glob hg hm ⟨tk, rfl⟩ hd
theorem hu65 {A : Around} {k : Nat} (hr : Room k A) : A.units + 65 < cLine := by
  have := hr.un
  omega
end
end Lib

/-! comprehensions, the slots of their own names given as a list -/
namespace Lib
open PySem L2 PySem.Spec PyProof.Rows
section
variable {X : Cx}
abbrev InB (X : Cx) (scope : Scope) (Y : Cx → Prop) : Prop := ∀ (s : Shared) (H : Hp) (C : Addr) (cl : List (Str × Addr)) (fp : List Addr), Y (X.blk s H scope (compEnvC scope cl C X.env) fp)
theorem lcX {elt tg iter : Expr} {ifs : List Expr} {scope : Scope} {pos : Pos} {wi : TI} {g : TG} {tt : TT} {te : TE} {vs : List Nat} (own : List (Str × Nat)) (ev : own.map (·.2) = vs) (calm : X.calm = true) (nd : X.N.Nodup)
    (ok : BlkOk X.N X.env.scope scope own) (hi : PI X tg iter wi) (hg : InB X scope fun Y => PG Y tg g) (ht : InB X scope fun Y => PTs Y ifs tt) (he : InB X scope fun Y => PE Y elt te)
    (hs : ∀ x, foldedSetIterable iter X.env x = pure x := by intro _; rfl) : PE X (.ListComp elt [⟨tg, iter, ifs, 0⟩] scope pos) (tLc wi g tt te vs) := by
  subst ev
  exact pe_lc calm nd hi ok hg ht he hs
theorem setLcX {i : Nat} {y : Str} {py spos : Pos} {elt tg iter : Expr} {ifs : List Expr} {scope : Scope} {pos : Pos} {wi : TI} {g : TG} {tt : TT} {te : TE} {vs : List Nat} (own : List (Str × Nat)) (ev : own.map (·.2) = vs) (calm : X.calm = true) (nd : X.N.Nodup)
    (hy : X.N[i]? = some y) (hl : X.env.scope.names.lookup y = some .local) (hw : swapsWith (.ListComp elt [⟨tg, iter, ifs, 0⟩] scope pos) (some (.Name y py)) spos.line X.env = pure true)
    (ok : BlkOk X.N X.env.scope scope own) (hi : PI X tg iter wi) (hg : InB X scope fun Y => PG Y tg g) (ht : InB X scope fun Y => PTs Y ifs tt) (he : InB X scope fun Y => PE Y elt te)
    (hs : ∀ x, foldedSetIterable iter X.env x = pure x := by intro _; rfl) : PS X (.Assign [.Name y py] (.ListComp elt [⟨tg, iter, ifs, 0⟩] scope pos) spos) (tAsg (tLc wi g tt te vs) (gName i)) := by
  subst ev
  exact ps_setLc calm nd hy hl hw hi ok hg ht he hs
theorem lc2X {elt tg iter tg1 iter1 : Expr} {ifs ifs1 : List Expr} {scope : Scope} {pos : Pos} {wi wi1 : TI} {g g1 : TG} {tt tt1 : TT} {te : TE} {vs vs1 : List Nat} (own : List (Str × Nat)) (ev : own.map (·.2) = vs) (calm : X.calm = true) (nd : X.N.Nodup)
    (ok : BlkOk X.N X.env.scope scope own) (hv : ∀ i ∈ vs1, i ∈ own.map (·.2)) (hi : PI X tg iter wi) (hg : InB X scope fun Y => PG Y tg g) (ht : InB X scope fun Y => PTs Y ifs tt)
    (hi1 : InB X scope fun Y => PI Y tg1 iter1 wi1) (hg1 : InB X scope fun Y => PG Y tg1 g1) (ht1 : InB X scope fun Y => PTs Y ifs1 tt1) (he : InB X scope fun Y => PE Y elt te)
    (hs : ∀ x, foldedSetIterable iter X.env x = pure x := by intro _; rfl) (hs1 : ∀ env x, foldedSetIterable iter1 env x = pure x := by intro _ _; rfl) :
    PE X (.ListComp elt [⟨tg, iter, ifs, 0⟩, ⟨tg1, iter1, ifs1, 0⟩] scope pos) (tLc2 wi g tt wi1 g1 tt1 te vs vs1) := by
  subst ev
  exact pe_lc2 calm nd hi ok hv hg ht hi1 hg1 ht1 he hs hs1
theorem setLc2X {i : Nat} {y : Str} {py spos : Pos} {elt tg iter tg1 iter1 : Expr} {ifs ifs1 : List Expr} {scope : Scope} {pos : Pos} {wi wi1 : TI} {g g1 : TG} {tt tt1 : TT} {te : TE} {vs vs1 : List Nat} (own : List (Str × Nat)) (ev : own.map (·.2) = vs) (calm : X.calm = true)
    (nd : X.N.Nodup) (hy : X.N[i]? = some y) (hl : X.env.scope.names.lookup y = some .local) (hw : swapsWith (.ListComp elt [⟨tg, iter, ifs, 0⟩, ⟨tg1, iter1, ifs1, 0⟩] scope pos) (some (.Name y py)) spos.line X.env = pure true)
    (ok : BlkOk X.N X.env.scope scope own) (hv : ∀ i ∈ vs1, i ∈ own.map (·.2)) (hi : PI X tg iter wi) (hg : InB X scope fun Y => PG Y tg g) (ht : InB X scope fun Y => PTs Y ifs tt)
    (hi1 : InB X scope fun Y => PI Y tg1 iter1 wi1) (hg1 : InB X scope fun Y => PG Y tg1 g1) (ht1 : InB X scope fun Y => PTs Y ifs1 tt1) (he : InB X scope fun Y => PE Y elt te)
    (hs : ∀ x, foldedSetIterable iter X.env x = pure x := by intro _; rfl) (hs1 : ∀ env x, foldedSetIterable iter1 env x = pure x := by intro _ _; rfl) :
    PS X (.Assign [.Name y py] (.ListComp elt [⟨tg, iter, ifs, 0⟩, ⟨tg1, iter1, ifs1, 0⟩] scope pos) spos) (tAsg (tLc2 wi g tt wi1 g1 tt1 te vs vs1) (gName i)) := by
  subst ev
  exact ps_setLc2 calm nd hy hl hw hi ok hv hg ht hi1 hg1 ht1 he hs hs1
end
end Lib

/-! worlds, instances, modules as data; what each def gives -/
namespace Lib
open PySem L2 PySem.Spec PyProof.Rows Evl
/-! ### worlds -/
structure Wd where
  cons : List (Str × Nat)
  traits : List (Str × Bool × List Str)
abbrev consD (c : Str × Nat) : Dat := .tup [.str c.1, .int (c.2 : Nat)]
abbrev formS (b : Bool) : Str := if b = true then "make" else "tell"
abbrev traitD (t : Str × Bool × List Str) : Dat := .tup [.str t.1, .str (formS t.2.1), .tup (t.2.2.map .str)]
abbrev worldD (W : Wd) : Dat := .tup [.ptup (W.cons.map consD), .tup (W.traits.map traitD)]
abbrev cn (W : Wd) : List Str := W.cons.map (·.1)
abbrev tn (W : Wd) : List Str := W.traits.map (·.1)
def rowsOf : List (List (Str × Nat)) :=
  [[("List", 1), ("Num", 0), ("Pair", 2)], [("List", 1), ("Num", 0)], [("Num", 0), ("Pair", 2)], [("List", 1), ("Num", 0), ("Unit", 0)], [("Num", 0)], [("Box", 1), ("List", 1), ("Num", 0)],
   [("List", 1), ("Num", 0), ("Pair", 2), ("Unit", 0)], [("List", 1), ("Num", 0), ("Pair", 2)]]
def allCons : List (Str × Nat) := [("List", 1), ("Num", 0), ("Pair", 2), ("Unit", 0), ("Box", 1)]
/-- the traits that the law draws: names in their row, each with some earlier ones below -/
inductive GoodT : List (Str × Bool × List Str) → Prop
  | one (f : Bool) : GoodT [("count", f, [])]
  | two (f g : Bool) (b : List Str) : b ∈ ([[], ["count"]] : List (List Str)) → GoodT [("count", f, []), ("show", g, b)]
  | three (f g : Bool) (b c : List Str) : b ∈ ([[], ["count"]] : List (List Str)) → c ∈ ([[], ["count"], ["show"], ["count", "show"]] : List (List Str)) → GoodT [("count", f, []), ("show", g, b), ("fresh", true, c)]
structure GoodW (W : Wd) : Prop where
  row : W.cons ∈ rowsOf
  tra : GoodT W.traits
/-! ### bodies, instances, modules -/
inductive Rk where
  | num (n : Nat) | mark | plus (a b : Rk) | times (a b : Rk) | tell (t : Str) (p : Nat)
def Rk.d : Rk → Dat
  | .num n => .tup [.str "number", .int (n : Nat)]
  | .mark => .tup [.str "mark"]
  | .plus a b => .tup [.str "plus", a.d, b.d]
  | .times a b => .tup [.str "times", a.d, b.d]
  | .tell t p => .tup [.str "tell", .str t, .int (p : Nat)]
def Rk.count : Rk → Nat
  | .plus a b => 1 + a.count + b.count
  | .times a b => 1 + a.count + b.count
  | _ => 1
def Rk.depth : Rk → Nat
  | .plus a b => 1 + max a.depth b.depth
  | .times a b => 1 + max a.depth b.depth
  | _ => 1
/-- the traits and parts of its tells -/
def Rk.asks : Rk → List (Str × Nat)
  | .plus a b => a.asks ++ b.asks
  | .times a b => a.asks ++ b.asks
  | .tell t p => [(t, p)]
  | _ => []
abbrev Tells (W : Wd) (t : Str) : Prop := ∃ b, (t, false, b) ∈ W.traits
abbrev Makes (W : Wd) (t : Str) : Prop := ∃ b, (t, true, b) ∈ W.traits
def GoodRk (W : Wd) (p : Int) : Rk → Prop
  | .num n => n ≤ 99
  | .mark => True
  | .plus a b => GoodRk W p a ∧ GoodRk W p b
  | .times a b => GoodRk W p a ∧ GoodRk W p b
  | .tell t q => (q : Int) < p ∧ Tells W t
/-- a reckoning that may stand in a body -/
structure ShortRk (W : Wd) (p : Int) (r : Rk) : Prop where
  good : GoodRk W p r
  few : r.count ≤ 15
  flat : r.depth ≤ 4
inductive Body where
  | reck (r : Rk) | made (r : Rk) (ps : List (Str × Rk))
abbrev madeD (x : Str × Rk) : Dat := .tup [.str x.1, x.2.d]
def Body.d : Body → Dat
  | .reck r => r.d
  | .made r ps => .tup (.str "made" :: r.d :: ps.map madeD)
def Body.asks : Body → List (Str × Nat)
  | .reck r => r.asks
  | .made _ ps => ps.mapIdx fun i x => (x.1, i)
inductive GoodB (W : Wd) (t : Str) (k : Nat) : Body → Prop
  | reck (r : Rk) : Tells W t → ShortRk W (k : Nat) r → GoodB W t k (.reck r)
  | made (r : Rk) (ps : List (Str × Rk)) : Makes W t → ShortRk W (-1) r → ps.length = k → (∀ x, x ∈ ps → Makes W x.1 ∧ ShortRk W (-1) x.2) → GoodB W t k (.made r ps)
abbrev optD : Option Str → Dat
  | none => .non
  | some s => .str s
abbrev askD (x : Str × Nat) : Dat := .tup [.str x.1, .int (x.2 : Nat)]
structure Ins where
  trait : Str
  root : Str
  limits : List (Option Str)
  asks : List (Str × Nat)
  body : Body
abbrev Ins.d (I : Ins) : Dat := .tup [.str I.trait, .str I.root, .tup (I.limits.map optD), .tup (I.asks.map askD), I.body.d]
/-- x < y, as the texts and numbers say -/
def askLt (x y : Str × Nat) : Bool := PySem.W.dataLt (askD x).out (askD y).out
structure GoodI (W : Wd) (I : Ins) : Prop where
  t : I.trait ∈ tn W
  c : (I.root, I.limits.length) ∈ W.cons
  l : ∀ s, some s ∈ I.limits → s ∈ cn W
  few : I.asks.length ≤ 3
  a : ∀ x, x ∈ I.asks → x.1 ∈ tn W ∧ x.2 < I.limits.length
  up : I.asks.Pairwise fun x y => askLt x y = true
  b : GoodB W I.trait I.limits.length I.body
structure Mo where
  imports : List Nat
  cons : List Str
  traits : List Str
  ins : List Ins
abbrev natD (n : Nat) : Dat := .int (n : Nat)
abbrev Mo.d (m : Mo) : Dat := .tup [.tup (m.imports.map natD), .tup (m.cons.map .str), .tup (m.traits.map .str), .tup (m.ins.map Ins.d)]
abbrev libD (L : List Mo) : Dat := .tup (L.map Mo.d)
def strLt (a b : Str) : Bool := decide (a.cps.toList < b.cps.toList)
/-- a module of the right form at the place p -/
structure GoodM (W : Wd) (p : Nat) (m : Mo) : Prop where
  imp : ∀ j, j ∈ m.imports → j < p
  impUp : m.imports.Pairwise (· < ·)
  con : ∀ s, s ∈ m.cons → s ∈ cn W
  conUp : m.cons.Pairwise fun a b => strLt a b = true
  tra : ∀ s, s ∈ m.traits → s ∈ tn W
  traUp : m.traits.Pairwise fun a b => strLt a b = true
  few : m.ins.length ≤ 4
  ins : ∀ I, I ∈ m.ins → GoodI W I
/-- its modules are of the right form -/
structure GoodF (W : Wd) (L : List Mo) : Prop where
  pos : 1 ≤ L.length
  few : L.length ≤ 5
  mods : ∀ (i : Nat) m, L[i]? = some m → GoodM W i m
/-- .. and name each constructor and trait once -/
structure GoodN (W : Wd) (L : List Mo) : Prop extends GoodF W L where
  con : (L.flatMap Mo.cons).Perm (cn W)
  tra : (L.flatMap Mo.traits).Perm (tn W)
/-! ### what modules see -/
/-- a sees b -/
inductive Sees (L : List Mo) : Nat → Nat → Prop
  | self (a : Nat) : Sees L a a
  | step {a b c : Nat} {m : Mo} : L[a]? = some m → b ∈ m.imports → Sees L b c → Sees L a c
open Classical in
/-- the numbers of the modules that a sees, ascending -/
noncomputable def seen (L : List Mo) (a : Nat) : List Nat := (List.range L.length).filter fun b => decide (Sees L a b)
def modAt (L : List Mo) (k : Nat) : Mo := L.getD k ⟨[], [], [], []⟩
noncomputable def consSeen (L : List Mo) (a : Nat) : List Str := (seen L a).flatMap fun k => (modAt L k).cons
noncomputable def traitsSeen (L : List Mo) (a : Nat) : List Str := (seen L a).flatMap fun k => (modAt L k).traits
noncomputable def insSeen (L : List Mo) (a : Nat) : List Ins := (seen L a).flatMap fun k => (modAt L k).ins
/-- the names of constructors, of traits, that an instance uses -/
def Ins.roots (I : Ins) : List Str := I.root :: I.limits.filterMap id
def Ins.used (I : Ins) : List Str := I.trait :: (I.asks.map (·.1) ++ I.body.asks.map (·.1))
noncomputable def knownT (W : Wd) (L : List Mo) (a : Nat) : Bool := W.traits.all fun x => !decide (x.1 ∈ (modAt L a).traits) || x.2.2.all fun b => decide (b ∈ traitsSeen L a)
noncomputable def knownI (L : List Mo) (a : Nat) : Bool := (modAt L a).ins.all fun I => I.roots.all (fun s => decide (s ∈ consSeen L a)) && I.used.all (fun s => decide (s ∈ traitsSeen L a))
noncomputable def known (W : Wd) (L : List Mo) (a : Nat) : Bool := knownT W L a && knownI L a
noncomputable def allKnown (W : Wd) (L : List Mo) : Bool := (List.range L.length).all (known W L)
def homeB (L : List Mo) (a : Nat) : Bool := (modAt L a).ins.all fun I => decide (I.trait ∈ (modAt L a).traits) || decide (I.root ∈ (modAt L a).cons)
/-! ### what is_module, is_library answer -/
inductive ModOut (W : Wd) (p : Nat) : Dat → Bool → Prop
  | good (m : Mo) : GoodM W p m → ModOut W p m.d true
  | notT (d : Dat) : d.isT = false → ModOut W p d false
  | len (ds : List Dat) : ds.length ≠ 4 → ds.length ≤ 100 → ModOut W p (.tup ds) false
  | impT (d c t i : Dat) : d.isT = false → ModOut W p (.tup [d, c, t, i]) false
  | imp0 (c t i : Dat) : p = 0 → ModOut W p (.tup [.tup [.int 0], c, t, i]) false
  | insN (c t : Dat) : ModOut W p (.tup [.tup [], c, t, .tup [.non]]) false
  | traN (c : List Str) (t : Dat) : t.isT = false → t.still = true → c.length ≤ 100 → ModOut W p (.tup [.tup [], .tup (c.map .str), t, .tup []]) false
inductive LibOut (W : Wd) : Dat → Bool → Prop
  | notT (d : Dat) : d.isT = false → LibOut W d false
  | len (ds : List Dat) : ¬ (1 ≤ ds.length ∧ ds.length ≤ 5) → ds.length ≤ 100 → LibOut W (.tup ds) false
  | mods (ds : List Dat) (bs : List Bool) : 1 ≤ ds.length → ds.length ≤ 5 → bs.length = ds.length → (∀ (i : Nat) d b, ds[i]? = some d → bs[i]? = some b → ModOut W i d b) → bs.all id = false → LibOut W (.tup ds) false
  | names (L : List Mo) : GoodF W L → (L.flatMap Mo.cons).length ≠ (cn W).length → LibOut W (libD L) false
  | lib (L : List Mo) : GoodN W L → LibOut W (libD L) (allKnown W L)
/-! ### the promises of the program's own defs -/
abbrev sp_is_between (K : PySem.W.Frag) (w : World) : Sp := PureSp K fun ds r => ∃ (d : Dat) (lo hi : Int), ds = [d, .int lo, .int hi] ∧ r = .bl (match d with | .int i => decide (lo ≤ i) && decide (i ≤ hi) | _ => false)
def smallB (s : Str) (lo hi : Int) : Bool := decide (lo ≤ (s.length : Int)) && decide ((s.length : Int) ≤ hi) && s.cps.toList.all fun c => decide (c ∈ sSMALL.cps.toList)
abbrev sp_are_small (K : PySem.W.Frag) (w : World) : Sp := PureSp K fun ds r => ∃ (s : Str) (lo hi : Int), ds = [.str s, .int lo, .int hi] ∧ s.length ≤ 1000 ∧ r = .bl (smallB s lo hi)
abbrev sp_is_constructor (K : PySem.W.Frag) (w : World) : Sp := PureSp K fun ds r => ∃ c, c ∈ allCons ∧ ds = [consD c] ∧ r = .bl true
abbrev sp_are_traits (K : PySem.W.Frag) (w : World) : Sp := PureSp K fun ds r => ∃ ts, GoodT ts ∧ ds = [.tup (ts.map traitD)] ∧ r = .bl true
abbrev sp_is_world (K : PySem.W.Frag) (w : World) : Sp := PureSp K fun ds r => ∃ W, GoodW W ∧ ds = [worldD W] ∧ r = .bl true
abbrev sp_check_world (K : PySem.W.Frag) (w : World) : Sp := PureSp K fun ds r => ∃ W, GoodW W ∧ ds = [worldD W] ∧ r = .non
abbrev sp_trait_names (K : PySem.W.Frag) (w : World) : Sp := PureSp K fun ds r => ∃ W, GoodW W ∧ ds = [worldD W] ∧ r = .lst ((tn W).map .str)
abbrev sp_form_of (K : PySem.W.Frag) (w : World) : Sp := PureSp K fun ds r => ∃ W t f b, GoodW W ∧ (t, f, b) ∈ W.traits ∧ ds = [worldD W, .str t] ∧ r = .str (formS f)
abbrev sp_reckoned (K : PySem.W.Frag) (w : World) (n : Nat) : Sp := PureSp K fun ds r => ∃ x : Rk, x.depth ≤ n ∧ ds = [x.d] ∧ r = .int (x.count : Nat)
abbrev sp_is_reckoning (K : PySem.W.Frag) (w : World) (n : Nat) : Sp := PureSp K fun ds r => ∃ (W : Wd) (x : Rk) (p : Int), GoodW W ∧ x.depth ≤ n ∧ GoodRk W p x ∧ ds = [worldD W, x.d, .int p] ∧ r = .bl true
abbrev sp_is_short (K : PySem.W.Frag) (w : World) : Sp := PureSp K fun ds r => ∃ (W : Wd) (x : Rk) (p : Int), GoodW W ∧ ShortRk W p x ∧ ds = [worldD W, x.d, .int p] ∧ r = .bl true
abbrev sp_is_body (K : PySem.W.Frag) (w : World) : Sp := PureSp K fun ds r => ∃ (W : Wd) (t c : Str) (k : Nat) (b : Body), GoodW W ∧ t ∈ tn W ∧ (c, k) ∈ W.cons ∧ GoodB W t k b ∧ ds = [worldD W, .str t, .str c, b.d] ∧ r = .bl true
abbrev sp_are_asks (K : PySem.W.Frag) (w : World) : Sp := PureSp K fun ds r => ∃ (W : Wd) (as : List (Str × Nat)) (k : Nat), GoodW W ∧ as.length ≤ 3 ∧ (∀ x, x ∈ as → x.1 ∈ tn W ∧ x.2 < k) ∧ (as.Pairwise fun x y => askLt x y = true) ∧
  ds = [worldD W, .tup (as.map askD), .int (k : Nat)] ∧ r = .bl true
abbrev sp_is_known_instance (K : PySem.W.Frag) (w : World) : Sp := PureSp K fun ds r => ∃ W : Wd, GoodW W ∧ ((∃ I, GoodI W I ∧ ds = [worldD W, I.d] ∧ r = .bl true) ∨ (ds = [worldD W, .non] ∧ r = .bl false))
abbrev sp_are_instances (K : PySem.W.Frag) (w : World) : Sp := PureSp K fun ds r => ∃ W : Wd, GoodW W ∧ ((∃ Is : List Ins, (∀ I, I ∈ Is → GoodI W I) ∧ Is.length ≤ 4 ∧ ds = [worldD W, .tup (Is.map Ins.d), .int 4] ∧ r = .bl true) ∨ (ds = [worldD W, .tup [.non], .int 4] ∧ r = .bl false))
abbrev sp_body_asks (K : PySem.W.Frag) (w : World) (n : Nat) : Sp := PureSp K fun ds r =>
  (∃ x : Rk, x.depth ≤ n ∧ ds = [x.d] ∧ x.count ≤ 15 ∧ r = .lst (x.asks.map askD)) ∨ (∃ (x : Rk) (ps : List (Str × Rk)), 1 ≤ n ∧ ps.length ≤ 10 ∧ ds = [(Body.made x ps).d] ∧ r = .lst ((Body.made x ps).asks.map askD))
abbrev sp_are_rising (K : PySem.W.Frag) (w : World) : Sp := PureSp K fun ds r =>
  (∃ ns : List Nat, ns.length ≤ 100 ∧ ns.Pairwise (· < ·) ∧ ds = [.tup (ns.map natD), .tup (ns.map natD)] ∧ r = .bl true) ∨
  (∃ ss zs : List Str, ss.length ≤ 100 ∧ (∀ s, s ∈ ss → s ∈ zs) ∧ (ss.Pairwise fun a b => strLt a b = true) ∧ ds = [.tup (ss.map .str), .lst (zs.map .str)] ∧ r = .bl true)
abbrev sp_is_module (K : PySem.W.Frag) (w : World) : Sp := PureSp K fun ds r => ∃ (W : Wd) (d : Dat) (p : Nat) (b : Bool), GoodW W ∧ p ≤ 10 ∧ ModOut W p d b ∧ ds = [worldD W, d, .int (p : Nat)] ∧ r = .bl b
abbrev sp_seen_from (K : PySem.W.Frag) (w : World) : Sp := PureSp K fun ds r => ∃ (W : Wd) (L : List Mo) (k : Nat), GoodF W L ∧ k < L.length ∧ ds = [libD L, .lst [natD k]] ∧ r = .lst ((seen L k).map natD)
abbrev sp_is_known (K : PySem.W.Frag) (w : World) : Sp := PureSp K fun ds r => ∃ (W : Wd) (L : List Mo) (k : Nat), GoodW W ∧ GoodN W L ∧ k < L.length ∧ ds = [worldD W, libD L, natD k] ∧ r = .bl (known W L k)
abbrev sp_is_library (K : PySem.W.Frag) (w : World) : Sp := PureSp K fun ds r => ∃ (W : Wd) (d : Dat) (b : Bool), GoodW W ∧ LibOut W d b ∧ ds = [worldD W, d] ∧ r = .bl b
abbrev sp_check_library (K : PySem.W.Frag) (w : World) : Sp := PureSp K fun ds r => ∃ (W : Wd) (L : List Mo), GoodW W ∧ GoodN W L ∧ allKnown W L = true ∧ ds = [worldD W, libD L] ∧ r = .non
abbrev sp_check_module (K : PySem.W.Frag) (w : World) : Sp := PureSp K fun ds r => ∃ (L : List Mo) (k : Nat), k < L.length ∧ ds = [libD L, natD k] ∧ r = .non
abbrev sp_set_seen (K : PySem.W.Frag) (w : World) : Sp := PureSp K fun ds r => ∃ (W : Wd) (L : List Mo) (k : Nat), GoodF W L ∧ k < L.length ∧ ds = [libD L, .lst [natD k]] ∧ r = .tup ((insSeen L k).map Ins.d)
abbrev sp_seen_set (K : PySem.W.Frag) (w : World) : Sp := PureSp K fun ds r => ∃ (W : Wd) (L : List Mo) (k : Nat), GoodW W ∧ GoodN W L ∧ allKnown W L = true ∧ k < L.length ∧ ds = [worldD W, libD L, natD k] ∧ r = .tup ((insSeen L k).map Ins.d)
abbrev sp_keeps_home (K : PySem.W.Frag) (w : World) : Sp := PureSp K fun ds r => ∃ (W : Wd) (L : List Mo) (k : Nat), GoodW W ∧ GoodN W L ∧ allKnown W L = true ∧ k < L.length ∧ ds = [worldD W, libD L, natD k] ∧ r = .bl (homeB L k)
/-! ### the law's own defs -/
/-- the script at a, the town at t: n draws at most so far -/
structure Tw (K : PySem.W.Frag) (a t : Addr) (ns : List Int) (n : Nat) (H : Hp) : Prop where
  scr : SqL K H a (ns.map V.int)
  town : ∃ (m : Nat) (ms : List Int), m ≤ n ∧ H t = some (.lst (.int (m : Nat) :: ms.map V.int)) ∧ ms.length = ns.length
  few : ns.length ≤ 63
/-- a def that draws: at most c draws, and it gives some d with P d -/
def ImpSp (K : PySem.W.Frag) (R : List Dat → Nat → (Dat → Prop) → Prop) : Sp := fun vs H Q _ => ∃ a t ns n vs' ds c P, vs = .ref a :: .ref t :: vs' ∧ Tw K a t ns n H ∧ RpAll K H vs' ds ∧ (∀ xs, ds = [.lst xs] → vs' ≠ [.ref t]) ∧ R ds c P ∧ n + c ≤ 100000 ∧
  ∀ v H' d, P d → Rp K H' v d → Frs H v d → Chg t H H' → Tw K a t ns (n + c) H' → Q v H'
abbrev sp__law_town (K : PySem.W.Frag) (w : World) : Sp := fun vs H Q _ => ∃ a ns, vs = [.ref a] ∧ SqL K H a (ns.map V.int) ∧ ns.length ≤ 63 ∧ ∀ t H', H t = none → Ex H H' → Tw K a t ns 0 H' → Q (.ref t) H'
abbrev sp__law_draw (K : PySem.W.Frag) (w : World) : Sp := ImpSp K fun ds c P => ∃ m : Int, 0 < m ∧ m ≤ 1000 ∧ ds = [.int m] ∧ c = 1 ∧ P = fun d => ∃ r : Int, 0 ≤ r ∧ r < m ∧ d = .int r
abbrev sp__law_pick (K : PySem.W.Frag) (w : World) : Sp := ImpSp K fun ds c P => ∃ xs : List Dat, xs ≠ [] ∧ xs.length ≤ 1000 ∧ stillAll xs = true ∧ ds = [.lst xs] ∧ c = 1 ∧ P = fun d => d ∈ xs
abbrev sp__law_world (K : PySem.W.Frag) (w : World) : Sp := ImpSp K fun ds c P => ds = [] ∧ c = 20 ∧ P = fun d => ∃ W, GoodW W ∧ d = worldD W
abbrev sp__law_traits (K : PySem.W.Frag) (w : World) : Sp := PureSp K fun ds r => ∃ W, GoodW W ∧ ds = [worldD W] ∧ r = .lst ((tn W).map .str)
abbrev sp__law_body (K : PySem.W.Frag) (w : World) : Sp := ImpSp K fun ds c P => ∃ (W : Wd) (t : Str) (k : Nat) (as : List (Str × Nat)), GoodW W ∧ t ∈ tn W ∧ k ≤ 2 ∧ as.length ≤ 3 ∧ (∀ x, x ∈ as → x.1 ∈ tn W ∧ x.2 < k) ∧
  ds = [worldD W, .str t, natD k, .tup (as.map askD)] ∧ c = 20 ∧ P = fun d => ∃ b, GoodB W t k b ∧ d = b.d
abbrev sp__law_instance (K : PySem.W.Frag) (w : World) : Sp := ImpSp K fun ds c P => ∃ W : Wd, GoodW W ∧ ds = [worldD W] ∧ c = 50 ∧ P = fun d => ∃ I, GoodI W I ∧ d = I.d
abbrev sp__law_set (K : PySem.W.Frag) (w : World) : Sp := ImpSp K fun ds c P => ∃ W : Wd, GoodW W ∧ ds = [worldD W, .int 2] ∧ c = 200 ∧ P = fun d => ∃ Is : List Ins, (∀ I, I ∈ Is → GoodI W I) ∧ Is.length ≤ 4 ∧ d = .tup (Is.map Ins.d)
abbrev sp__law_sees (K : PySem.W.Frag) (w : World) (n : Nat) : Sp := PureSp K fun ds r => ∃ (W : Wd) (L : List Mo) (k : Nat), GoodF W L ∧ k < L.length ∧ k < n ∧ ds = [libD L, natD k] ∧ r = .lst ((seen L k).map natD)
abbrev sp__law_asked (K : PySem.W.Frag) (w : World) (n : Nat) : Sp := PureSp K fun ds r =>
  (∃ x : Rk, x.depth ≤ n ∧ ds = [x.d] ∧ x.count ≤ 15 ∧ r = .lst (x.asks.map fun y => .str y.1)) ∨ (∃ (x : Rk) (ps : List (Str × Rk)), 1 ≤ n ∧ ps.length ≤ 10 ∧ ds = [(Body.made x ps).d] ∧ r = .lst ((Body.made x ps).asks.map fun y => .str y.1))
abbrev sp__law_good (K : PySem.W.Frag) (w : World) : Sp := PureSp K fun ds r => ∃ (W : Wd) (L : List Mo), GoodW W ∧ GoodN W L ∧ ds = [worldD W, libD L] ∧ r = .bl (allKnown W L)
abbrev sp__law_library (K : PySem.W.Frag) (w : World) : Sp := ImpSp K fun ds c P => ∃ W : Wd, GoodW W ∧ ds = [worldD W] ∧ c = 1000 ∧ P = fun d => ∃ L, GoodN W L ∧ d = libD L
abbrev sp_law (K : PySem.W.Frag) (w : World) : Sp := fun vs H Q _ => ∃ (a : Addr) (ns : List Int), vs = [.ref a] ∧ SqL K H a (ns.map V.int) ∧ ns.length ≤ 63 ∧ ∀ H', Q (.bl true) H'
end Lib

namespace Lib
open PySem L2 PySem.Spec PyProof.Rows Evl
def topS (i : Nat) : Stmt := PySem.Challenge.pw_traitsure_k90_whole_libraries.main.body.getD i (.Pass ⟨0, 0, 0, 0⟩)
abbrev s_is_between : Stmt := topS 8
abbrev N_is_between : List Str := ["value", "low", "high"]
theorem sc_is_between : FnScope N_is_between ["value", "low", "high"] (defScope s_is_between) := ⟨rfl, rfl, rfl, by decide +kernel, rfl, by decide +kernel, by decide +kernel⟩
abbrev s_are_small : Stmt := topS 9
abbrev N_are_small : List Str := ["value", "low", "high", "sign"]
theorem sc_are_small : FnScope N_are_small ["value", "low", "high"] (defScope s_are_small) := ⟨rfl, rfl, rfl, by decide +kernel, rfl, by decide +kernel, by decide +kernel⟩
abbrev s_is_constructor : Stmt := topS 10
abbrev N_is_constructor : List Str := ["value"]
theorem sc_is_constructor : FnScope N_is_constructor ["value"] (defScope s_is_constructor) := ⟨rfl, rfl, rfl, by decide +kernel, rfl, by decide +kernel, by decide +kernel⟩
abbrev s_are_traits : Stmt := topS 11
abbrev N_are_traits : List Str := ["value", "earlier", "trait", "name", "form", "below", "one", "k"]
theorem sc_are_traits : FnScope N_are_traits ["value"] (defScope s_are_traits) := ⟨rfl, rfl, rfl, by decide +kernel, rfl, by decide +kernel, by decide +kernel⟩
abbrev s_is_world : Stmt := topS 12
abbrev N_is_world : List Str := ["value", "some", "one", "k", "name", "parts"]
theorem sc_is_world : FnScope N_is_world ["value"] (defScope s_is_world) := ⟨rfl, rfl, rfl, by decide +kernel, rfl, by decide +kernel, by decide +kernel⟩
abbrev s_check_world : Stmt := topS 13
abbrev N_check_world : List Str := ["value"]
theorem sc_check_world : FnScope N_check_world ["value"] (defScope s_check_world) := ⟨rfl, rfl, rfl, by decide +kernel, rfl, by decide +kernel, by decide +kernel⟩
abbrev s_trait_names : Stmt := topS 14
abbrev N_trait_names : List Str := ["world", "name", "form", "below"]
theorem sc_trait_names : FnScope N_trait_names ["world"] (defScope s_trait_names) := ⟨rfl, rfl, rfl, by decide +kernel, rfl, by decide +kernel, by decide +kernel⟩
abbrev s_form_of : Stmt := topS 15
abbrev N_form_of : List Str := ["world", "trait", "name", "form", "below"]
theorem sc_form_of : FnScope N_form_of ["world", "trait"] (defScope s_form_of) := ⟨rfl, rfl, rfl, by decide +kernel, rfl, by decide +kernel, by decide +kernel⟩
abbrev s_reckoned : Stmt := topS 16
abbrev N_reckoned : List Str := ["value", "part"]
theorem sc_reckoned : FnScope N_reckoned ["value"] (defScope s_reckoned) := ⟨rfl, rfl, rfl, by decide +kernel, rfl, by decide +kernel, by decide +kernel⟩
abbrev s_is_reckoning : Stmt := topS 17
abbrev N_is_reckoning : List Str := ["world", "value", "parts", "part", "row"]
theorem sc_is_reckoning : FnScope N_is_reckoning ["world", "value", "parts"] (defScope s_is_reckoning) := ⟨rfl, rfl, rfl, by decide +kernel, rfl, by decide +kernel, by decide +kernel⟩
abbrev s_is_short : Stmt := topS 18
abbrev N_is_short : List Str := ["world", "value", "parts"]
theorem sc_is_short : FnScope N_is_short ["world", "value", "parts"] (defScope s_is_short) := ⟨rfl, rfl, rfl, by decide +kernel, rfl, by decide +kernel, by decide +kernel⟩
abbrev s_is_body : Stmt := topS 19
abbrev N_is_body : List Str := ["world", "trait", "root", "value", "parts", "part", "row"]
theorem sc_is_body : FnScope N_is_body ["world", "trait", "root", "value"] (defScope s_is_body) := ⟨rfl, rfl, rfl, by decide +kernel, rfl, by decide +kernel, by decide +kernel⟩
abbrev s_are_asks : Stmt := topS 20
abbrev N_are_asks : List Str := ["world", "value", "parts", "ask", "k"]
theorem sc_are_asks : FnScope N_are_asks ["world", "value", "parts"] (defScope s_are_asks) := ⟨rfl, rfl, rfl, by decide +kernel, rfl, by decide +kernel, by decide +kernel⟩
abbrev s_is_known_instance : Stmt := topS 21
abbrev N_is_known_instance : List Str := ["world", "value", "one", "trait", "root", "limits", "asks", "body", "table", "limit"]
theorem sc_is_known_instance : FnScope N_is_known_instance ["world", "value"] (defScope s_is_known_instance) := ⟨rfl, rfl, rfl, by decide +kernel, rfl, by decide +kernel, by decide +kernel⟩
abbrev s_are_instances : Stmt := topS 22
abbrev N_are_instances : List Str := ["world", "value", "most", "one"]
theorem sc_are_instances : FnScope N_are_instances ["world", "value", "most"] (defScope s_are_instances) := ⟨rfl, rfl, rfl, by decide +kernel, rfl, by decide +kernel, by decide +kernel⟩
abbrev s_body_asks : Stmt := topS 24
abbrev N_body_asks : List Str := ["body", "part", "pair", "found", "one"]
theorem sc_body_asks : FnScope N_body_asks ["body"] (defScope s_body_asks) := ⟨rfl, rfl, rfl, by decide +kernel, rfl, by decide +kernel, by decide +kernel⟩
abbrev s_are_rising : Stmt := topS 26
abbrev N_are_rising : List Str := ["value", "some", "one", "k"]
theorem sc_are_rising : FnScope N_are_rising ["value", "some"] (defScope s_are_rising) := ⟨rfl, rfl, rfl, by decide +kernel, rfl, by decide +kernel, by decide +kernel⟩
abbrev s_is_module : Stmt := topS 27
abbrev N_is_module : List Str := ["world", "value", "place", "imports", "constructors", "traits", "instances", "one", "row"]
theorem sc_is_module : FnScope N_is_module ["world", "value", "place"] (defScope s_is_module) := ⟨rfl, rfl, rfl, by decide +kernel, rfl, by decide +kernel, by decide +kernel⟩
abbrev s_seen_from : Stmt := topS 28
abbrev N_seen_from : List Str := ["library", "modules", "met", "waiting", "here"]
theorem sc_seen_from : FnScope N_seen_from ["library", "modules"] (defScope s_seen_from) := ⟨rfl, rfl, rfl, by decide +kernel, rfl, by decide +kernel, by decide +kernel⟩
abbrev s_is_known : Stmt := topS 29
abbrev N_is_known : List Str := ["world", "library", "place", "some", "constructors", "one", "name", "traits", "form", "below", "trait", "root", "limits", "asks", "body", "roots", "limit", "used", "ask"]
theorem sc_is_known : FnScope N_is_known ["world", "library", "place"] (defScope s_is_known) := ⟨rfl, rfl, rfl, by decide +kernel, rfl, by decide +kernel, by decide +kernel⟩
abbrev s_is_library : Stmt := topS 30
abbrev N_is_library : List Str := ["world", "value", "place", "one", "constructors", "name", "traits"]
theorem sc_is_library : FnScope N_is_library ["world", "value"] (defScope s_is_library) := ⟨rfl, rfl, rfl, by decide +kernel, rfl, by decide +kernel, by decide +kernel⟩
abbrev s_check_library : Stmt := topS 31
abbrev N_check_library : List Str := ["world", "library"]
theorem sc_check_library : FnScope N_check_library ["world", "library"] (defScope s_check_library) := ⟨rfl, rfl, rfl, by decide +kernel, rfl, by decide +kernel, by decide +kernel⟩
abbrev s_check_module : Stmt := topS 32
abbrev N_check_module : List Str := ["library", "module"]
theorem sc_check_module : FnScope N_check_module ["library", "module"] (defScope s_check_module) := ⟨rfl, rfl, rfl, by decide +kernel, rfl, by decide +kernel, by decide +kernel⟩
abbrev s_set_seen : Stmt := topS 33
abbrev N_set_seen : List Str := ["library", "modules", "found", "place"]
theorem sc_set_seen : FnScope N_set_seen ["library", "modules"] (defScope s_set_seen) := ⟨rfl, rfl, rfl, by decide +kernel, rfl, by decide +kernel, by decide +kernel⟩
abbrev s_seen_set : Stmt := topS 34
abbrev N_seen_set : List Str := ["world", "library", "module"]
theorem sc_seen_set : FnScope N_seen_set ["world", "library", "module"] (defScope s_seen_set) := ⟨rfl, rfl, rfl, by decide +kernel, rfl, by decide +kernel, by decide +kernel⟩
abbrev s_keeps_home : Stmt := topS 35
abbrev N_keeps_home : List Str := ["world", "library", "module", "imports", "constructors", "traits", "instances", "one"]
theorem sc_keeps_home : FnScope N_keeps_home ["world", "library", "module"] (defScope s_keeps_home) := ⟨rfl, rfl, rfl, by decide +kernel, rfl, by decide +kernel, by decide +kernel⟩
abbrev s__law_town : Stmt := topS 37
abbrev N__law_town : List Str := ["_law_script"]
theorem sc__law_town : FnScope N__law_town ["_law_script"] (defScope s__law_town) := ⟨rfl, rfl, rfl, by decide +kernel, rfl, by decide +kernel, by decide +kernel⟩
abbrev s__law_draw : Stmt := topS 38
abbrev N__law_draw : List Str := ["_law_script", "_law_town_here", "_law_limit", "_law_at", "_law_left", "_law_number"]
theorem sc__law_draw : FnScope N__law_draw ["_law_script", "_law_town_here", "_law_limit"] (defScope s__law_draw) := ⟨rfl, rfl, rfl, by decide +kernel, rfl, by decide +kernel, by decide +kernel⟩
abbrev s__law_pick : Stmt := topS 39
abbrev N__law_pick : List Str := ["_law_script", "_law_town_here", "_law_choices"]
theorem sc__law_pick : FnScope N__law_pick ["_law_script", "_law_town_here", "_law_choices"] (defScope s__law_pick) := ⟨rfl, rfl, rfl, by decide +kernel, rfl, by decide +kernel, by decide +kernel⟩
abbrev s__law_world : Stmt := topS 40
abbrev N__law_world : List Str := ["_law_script", "_law_town_here", "_law_rows", "_law_traits_here", "_law_earlier", "_law_name", "_law_below", "_law_one", "_law_form"]
theorem sc__law_world : FnScope N__law_world ["_law_script", "_law_town_here"] (defScope s__law_world) := ⟨rfl, rfl, rfl, by decide +kernel, rfl, by decide +kernel, by decide +kernel⟩
abbrev s__law_traits : Stmt := topS 41
abbrev N__law_traits : List Str := ["_law_world_here", "_law_row"]
theorem sc__law_traits : FnScope N__law_traits ["_law_world_here"] (defScope s__law_traits) := ⟨rfl, rfl, rfl, by decide +kernel, rfl, by decide +kernel, by decide +kernel⟩
abbrev s__law_body : Stmt := topS 42
abbrev N__law_body : List Str := ["_law_script", "_law_town_here", "_law_world_here", "_law_trait", "_law_parts", "_law_asks", "_law_form", "_law_row", "_law_tells", "_law_number", "_law_reckoning", "_law_makes", "_law_k", "_law_rows", "_law_other", "_law_part", "_law_loose"]
theorem sc__law_body : FnScope N__law_body ["_law_script", "_law_town_here", "_law_world_here", "_law_trait", "_law_parts", "_law_asks"] (defScope s__law_body) := ⟨rfl, rfl, rfl, by decide +kernel, rfl, by decide +kernel, by decide +kernel⟩
abbrev s__law_instance : Stmt := topS 43
abbrev N__law_instance : List Str := ["_law_script", "_law_town_here", "_law_world_here", "_law_trait", "_law_root", "_law_parts", "_law_limits", "_law_asks", "_law_part", "_law_limit", "_law_row", "_law_name"]
theorem sc__law_instance : FnScope N__law_instance ["_law_script", "_law_town_here", "_law_world_here"] (defScope s__law_instance) := ⟨rfl, rfl, rfl, by decide +kernel, rfl, by decide +kernel, by decide +kernel⟩
abbrev s__law_set : Stmt := topS 44
abbrev N__law_set : List Str := ["_law_script", "_law_town_here", "_law_world_here", "_law_most", "_law_k"]
theorem sc__law_set : FnScope N__law_set ["_law_script", "_law_town_here", "_law_world_here", "_law_most"] (defScope s__law_set) := ⟨rfl, rfl, rfl, by decide +kernel, rfl, by decide +kernel, by decide +kernel⟩
abbrev s__law_sees : Stmt := topS 45
abbrev N__law_sees : List Str := ["_law_library_here", "_law_module", "_law_found", "_law_place"]
theorem sc__law_sees : FnScope N__law_sees ["_law_library_here", "_law_module"] (defScope s__law_sees) := ⟨rfl, rfl, rfl, by decide +kernel, rfl, by decide +kernel, by decide +kernel⟩
abbrev s__law_asked : Stmt := topS 46
abbrev N__law_asked : List Str := ["_law_body_here", "_law_pair", "_law_found", "_law_part"]
theorem sc__law_asked : FnScope N__law_asked ["_law_body_here"] (defScope s__law_asked) := ⟨rfl, rfl, rfl, by decide +kernel, rfl, by decide +kernel, by decide +kernel⟩
abbrev s__law_good : Stmt := topS 47
abbrev N__law_good : List Str := ["_law_world_here", "_law_library_here", "_law_roots", "_law_traits_here", "_law_k", "_law_place", "_law_row", "_law_seen", "_law_trait", "_law_root", "_law_limits", "_law_asks", "_law_body_here", "_law_used", "_law_limit", "_law_name", "_law_more", "_law_ask", "_law_form", "_law_below", "_law_rest", "_law_one"]
theorem sc__law_good : FnScope N__law_good ["_law_world_here", "_law_library_here"] (defScope s__law_good) := ⟨rfl, rfl, rfl, by decide +kernel, rfl, by decide +kernel, by decide +kernel⟩
abbrev s__law_library : Stmt := topS 48
abbrev N__law_library : List Str := ["_law_script", "_law_town_here", "_law_world_here", "_law_many", "_law_found", "_law_homes", "_law_k", "_law_imports", "_law_place", "_law_roots", "_law_j", "_law_row", "_law_traits_here", "_law_some"]
theorem sc__law_library : FnScope N__law_library ["_law_script", "_law_town_here", "_law_world_here"] (defScope s__law_library) := ⟨rfl, rfl, rfl, by decide +kernel, rfl, by decide +kernel, by decide +kernel⟩
abbrev s_law : Stmt := topS 49
abbrev N_law : List Str := ["_law_script", "_law_town_here", "_law_world_here", "_law_k", "_law_library_here", "_law_good_here", "_law_module", "_law_some", "_law_place", "_law_out", "_law_one", "_law_every", "_law_row", "_law_bads", "_law_bad"]
theorem sc_law : FnScope N_law ["_law_script"] (defScope s_law) := ⟨rfl, rfl, rfl, by decide +kernel, rfl, by decide +kernel, by decide +kernel⟩
def t_is_between (K : PySem.W.Frag) (w : World) : TS :=
  (tRet (tAndV (tCB (rIsi K) (tCons (tVar 0) (tCons (tC (.ty "int")) tNil))) (tAndV (tNotV (tCB (rIsi K) (tCons (tVar 0) (tCons (tC (.ty "bool")) tNil)))) (tChain rLe rLe (tVar 1) (tVar 0) (tVar 2)))))
def t_are_small (K : PySem.W.Frag) (w : World) : TS :=
  (tRet (tAndV (tCB (rIsi K) (tCons (tVar 0) (tCons (tC (.ty "str")) tNil))) (tAndV (tChain rLe rLe (tVar 1) (tCB (rLenX K) (tCons (tVar 0) tNil)) (tVar 2)) (tCB (rAll K) (tCons (tLc (iStr (tVar 0)) (gName 3) tYes (tOp rInS (tVar 3) (tC (.str sSMALL))) [3]) tNil)))))
def t_is_constructor (K : PySem.W.Frag) (w : World) : TS :=
  (tSeq (tIfS (tOr (tNot (tB (tCB (rIsi K) (tCons (tVar 0) (tCons (tC (.ty "tuple")) tNil))))) (tOr (tTest (tOp (rNeX K) (tCB (rLenX K) (tCons (tVar 0) tNil)) (tC (.int 2)))) (tOr (tNot (tB (tCB (rIsi K) (tCons (tOp (rIx K) (tVar 0) (tC (.int 0))) (tCons (tC (.ty "str")) tNil))))) (tTest (tOp (rEqX K) (tOp (rIx K) (tVar 0) (tC (.int 0))) (tC (.str ""))))))) (tRet (tC (.bl false))) tNext)
  (tRet (tAndV (tOp rInS (tOp (rIx K) (tOp (rIx K) (tVar 0) (tC (.int 0))) (tC (.int 0))) (tC (.str sGREAT))) (tAndV (tCall (sp_are_small K w) [] E0 (tCons (tSl rSlS (tOp (rIx K) (tVar 0) (tC (.int 0))) (tPart (tC (.int 1))) tNoPart) (tCons (tC (.int 0)) (tCons (tC (.int 5)) tNil)))) (tCall (sp_is_between K w) [] E0 (tCons (tOp (rIx K) (tVar 0) (tC (.int 1))) (tCons (tC (.int 0)) (tCons (tC (.int 2)) tNil))))))))
def t_are_traits (K : PySem.W.Frag) (w : World) : TS :=
  (tSeq (tIfS (tOr (tNot (tB (tCB (rIsi K) (tCons (tVar 0) (tCons (tC (.ty "tuple")) tNil))))) (tNot (tTest (tChain rLe rLe (tC (.int 1)) (tCB (rLenX K) (tCons (tVar 0) tNil)) (tC (.int 4)))))) (tRet (tC (.bl false))) tNext)
  (tSeq (tAsg (tLst tNil) (gName 1))
  (tSeq (tFor (iTup K (tVar 0)) (gName 2)
  (tSeq (tIfS (tOr (tNot (tB (tCB (rIsi K) (tCons (tVar 2) (tCons (tC (.ty "tuple")) tNil))))) (tOr (tTest (tOp (rNeX K) (tCB (rLenX K) (tCons (tVar 2) tNil)) (tC (.int 3)))) (tOr (tNot (tB (tCall (sp_are_small K w) [] E0 (tCons (tOp (rIx K) (tVar 2) (tC (.int 0))) (tCons (tC (.int 1)) (tCons (tC (.int 6)) tNil)))))) (tTest (tOp (rIn K false) (tOp (rIx K) (tVar 2) (tC (.int 0))) (tVar 1)))))) (tRet (tC (.bl false))) tNext)
  (tSeq (tAsg (tVar 2) (gTup K 3 (gCons (gName 3) (gCons (gName 4) (gCons (gName 5) gNil)))))
  (tSeq (tIfS (tOr (tNot (tB (tCB (rIsi K) (tCons (tVar 4) (tCons (tC (.ty "str")) tNil))))) (tOr (tTest (tOp (rIn K true) (tVar 4) (tTup (tCons (tC (.str "tell")) (tCons (tC (.str "make")) tNil))))) (tNot (tB (tCB (rIsi K) (tCons (tVar 5) (tCons (tC (.ty "tuple")) tNil))))))) (tRet (tC (.bl false))) tNext)
  (tSeq (tIfS (tNot (tB (tCB (rAll K) (tCons (tLc (iTup K (tVar 5)) (gName 6) tYes (tAndV (tCB (rIsi K) (tCons (tVar 6) (tCons (tC (.ty "str")) tNil))) (tOp (rIn K false) (tVar 6) (tVar 1))) [6]) tNil)))) (tRet (tC (.bl false))) tNext)
  (tSeq (tIfS (tNot (tB (tCB (rAll K) (tCons (tLc (iRng1 (tCons (tOp rMinus (tCB (rLenX K) (tCons (tVar 5) tNil)) (tC (.int 1))) tNil)) (gName 7) tYes (tOp (rLtD K) (tOp (rIx K) (tVar 5) (tVar 7)) (tOp (rIx K) (tVar 5) (tOp (rPlus K) (tVar 7) (tC (.int 1))))) [7]) tNil)))) (tRet (tC (.bl false))) tNext)
  (tDrop (tBM K "list" rAppend (tVar 1) (tCons (tVar 3) tNil)))))))))
  (tRet (tC (.bl true))))))
def t_is_world (K : PySem.W.Frag) (w : World) : TS :=
  (tSeq (tIfS (tOr (tNot (tB (tCB (rIsi K) (tCons (tVar 0) (tCons (tC (.ty "tuple")) tNil))))) (tOr (tTest (tOp (rNeX K) (tCB (rLenX K) (tCons (tVar 0) tNil)) (tC (.int 2)))) (tNot (tB (tCB (rIsi K) (tCons (tOp (rIx K) (tVar 0) (tC (.int 0))) (tCons (tC (.ty "tuple")) tNil))))))) (tRet (tC (.bl false))) tNext)
  (tSeq (tAsg (tOp (rIx K) (tVar 0) (tC (.int 0))) (gName 1))
  (tSeq (tIfS (tOr (tNot (tTest (tChain rLe rLe (tC (.int 1)) (tCB (rLenX K) (tCons (tVar 1) tNil)) (tC (.int 4))))) (tNot (tB (tCB (rAll K) (tCons (tLc (iTup K (tVar 1)) (gName 2) tYes (tCall (sp_is_constructor K w) [] E0 (tCons (tVar 2) tNil)) [2]) tNil))))) (tRet (tC (.bl false))) tNext)
  (tSeq (tIfS (tNot (tB (tCB (rAll K) (tCons (tLc (iRng1 (tCons (tOp rMinus (tCB (rLenX K) (tCons (tVar 1) tNil)) (tC (.int 1))) tNil)) (gName 3) tYes (tOp (rLtD K) (tOp (rIx K) (tOp (rIx K) (tVar 1) (tVar 3)) (tC (.int 0))) (tOp (rIx K) (tOp (rIx K) (tVar 1) (tOp (rPlus K) (tVar 3) (tC (.int 1)))) (tC (.int 0)))) [3]) tNil)))) (tRet (tC (.bl false))) tNext)
  (tRet (tAndV (tCB (rAny K) (tCons (tLc (iTup K (tVar 1)) (gTup K 2 (gCons (gName 4) (gCons (gName 5) gNil))) tYes (tOp (rEqX K) (tVar 5) (tC (.int 0))) [4, 5]) tNil)) (tCall (sp_are_traits K w) [] E0 (tCons (tOp (rIx K) (tVar 0) (tC (.int 1))) tNil))))))))
def t_check_world (K : PySem.W.Frag) (w : World) : TS :=
  (tIfS (tNot (tB (tCall (sp_is_world K w) [] E0 (tCons (tVar 0) tNil)))) tNever tNext)
def t_trait_names (K : PySem.W.Frag) (w : World) : TS :=
  (tRet (tLc (iTup K (tOp (rIx K) (tVar 0) (tC (.int 1)))) (gTup K 3 (gCons (gName 1) (gCons (gName 2) (gCons (gName 3) gNil)))) tYes (tVar 1) [1, 2, 3]))
def t_form_of (K : PySem.W.Frag) (w : World) : TS :=
  (tRet (tOp (rIx K) (tLc (iTup K (tOp (rIx K) (tVar 0) (tC (.int 1)))) (gTup K 3 (gCons (gName 2) (gCons (gName 3) (gCons (gName 4) gNil)))) (tTest (tOp (rEqX K) (tVar 2) (tVar 1))) (tVar 3) [2, 3, 4]) (tC (.int 0))))
def t_reckoned (K : PySem.W.Frag) (w : World) (n : Nat) : TS :=
  (tRet (tOp (rPlus K) (tC (.int 1)) (tCB (rSum K) (tCons (tLc (iTup K (tSl (rSlT K) (tVar 0) (tPart (tC (.int 1))) tNoPart)) (gName 1) (tB (tCB (rIsi K) (tCons (tVar 1) (tCons (tC (.ty "tuple")) tNil)))) (tCall (sp_reckoned K w n) [] E0 (tCons (tVar 1) tNil)) [1]) tNil))))
def t_is_reckoning (K : PySem.W.Frag) (w : World) (n : Nat) : TS :=
  (tSeq (tIfS (tOr (tNot (tB (tCB (rIsi K) (tCons (tVar 1) (tCons (tC (.ty "tuple")) tNil))))) (tOr (tTest (tOp (rEqX K) (tCB (rLenX K) (tCons (tVar 1) tNil)) (tC (.int 0)))) (tNot (tB (tCB (rIsi K) (tCons (tOp (rIx K) (tVar 1) (tC (.int 0))) (tCons (tC (.ty "str")) tNil))))))) (tRet (tC (.bl false))) tNext)
  (tSeq (tIfS (tTest (tOp (rEqX K) (tOp (rIx K) (tVar 1) (tC (.int 0))) (tC (.str "number")))) (tRet (tAndV (tOp (rEqX K) (tCB (rLenX K) (tCons (tVar 1) tNil)) (tC (.int 2))) (tCall (sp_is_between K w) [] E0 (tCons (tOp (rIx K) (tVar 1) (tC (.int 1))) (tCons (tC (.int 0)) (tCons (tC (.int 99)) tNil)))))) tNext)
  (tSeq (tIfS (tTest (tOp (rEqX K) (tOp (rIx K) (tVar 1) (tC (.int 0))) (tC (.str "mark")))) (tRet (tOp (rEqX K) (tCB (rLenX K) (tCons (tVar 1) tNil)) (tC (.int 1)))) tNext)
  (tSeq (tIfS (tTest (tOp (rIn K false) (tOp (rIx K) (tVar 1) (tC (.int 0))) (tTup (tCons (tC (.str "plus")) (tCons (tC (.str "times")) tNil))))) (tRet (tAndV (tOp (rEqX K) (tCB (rLenX K) (tCons (tVar 1) tNil)) (tC (.int 3))) (tCB (rAll K) (tCons (tLc (iTup K (tSl (rSlT K) (tVar 1) (tPart (tC (.int 1))) tNoPart)) (gName 3) tYes (tCall (sp_is_reckoning K w n) [] E0 (tCons (tVar 0) (tCons (tVar 3) (tCons (tVar 2) tNil)))) [3]) tNil)))) tNext)
  (tSeq (tIfS (tOr (tTest (tOp (rNeX K) (tOp (rIx K) (tVar 1) (tC (.int 0))) (tC (.str "tell")))) (tOr (tTest (tOp (rNeX K) (tCB (rLenX K) (tCons (tVar 1) tNil)) (tC (.int 3)))) (tNot (tB (tCall (sp_is_between K w) [] E0 (tCons (tOp (rIx K) (tVar 1) (tC (.int 2))) (tCons (tC (.int 0)) (tCons (tOp rMinus (tVar 2) (tC (.int 1))) tNil)))))))) (tRet (tC (.bl false))) tNext)
  (tRet (tAndV (tCB (rIsi K) (tCons (tOp (rIx K) (tVar 1) (tC (.int 1))) (tCons (tC (.ty "str")) tNil))) (tOp (rInD K) (tTup (tCons (tOp (rIx K) (tVar 1) (tC (.int 1))) (tCons (tC (.str "tell")) tNil))) (tLc (iTup K (tOp (rIx K) (tVar 0) (tC (.int 1)))) (gName 4) tYes (tSl (rSlT K) (tVar 4) tNoPart (tPart (tC (.int 2)))) [4])))))))))
def t_is_short (K : PySem.W.Frag) (w : World) : TS :=
  (tRet (tAndV (tCall (sp_is_reckoning K w 9) [] E0 (tCons (tVar 0) (tCons (tVar 1) (tCons (tVar 2) tNil)))) (tOp rLe (tCall (sp_reckoned K w 9) [] E0 (tCons (tVar 1) tNil)) (tC (.int 15)))))
def t_is_body (K : PySem.W.Frag) (w : World) : TS :=
  (tSeq (tAsg (tDGet (tCB (rDictT K) (tCons (tOp (rIx K) (tVar 0) (tC (.int 0))) tNil)) (tVar 2)) (gName 4))
  (tSeq (tIfS (tTest (tOp (rEqX K) (tCall (sp_form_of K w) [] E0 (tCons (tVar 0) (tCons (tVar 1) tNil))) (tC (.str "tell")))) (tRet (tCall (sp_is_short K w) [] E0 (tCons (tVar 0) (tCons (tVar 3) (tCons (tVar 4) tNil))))) tNext)
  (tSeq (tIfS (tOr (tNot (tB (tCB (rIsi K) (tCons (tVar 3) (tCons (tC (.ty "tuple")) tNil))))) (tOr (tTest (tOp (rNeX K) (tCB (rLenX K) (tCons (tVar 3) tNil)) (tOp (rPlus K) (tC (.int 2)) (tVar 4)))) (tTest (tOp (rNeX K) (tOp (rIx K) (tVar 3) (tC (.int 0))) (tC (.str "made")))))) (tRet (tC (.bl false))) tNext)
  (tSeq (tIfS (tNot (tB (tCall (sp_is_short K w) [] E0 (tCons (tVar 0) (tCons (tOp (rIx K) (tVar 3) (tC (.int 1))) (tCons (tUn rNegU (tC (.int 1))) tNil)))))) (tRet (tC (.bl false))) tNext)
  (tSeq (tFor (iTup K (tSl (rSlT K) (tVar 3) (tPart (tC (.int 2))) tNoPart)) (gName 5)
  (tSeq (tIfS (tOr (tNot (tB (tCB (rIsi K) (tCons (tVar 5) (tCons (tC (.ty "tuple")) tNil))))) (tOr (tTest (tOp (rNeX K) (tCB (rLenX K) (tCons (tVar 5) tNil)) (tC (.int 2)))) (tNot (tB (tCall (sp_is_short K w) [] E0 (tCons (tVar 0) (tCons (tOp (rIx K) (tVar 5) (tC (.int 1))) (tCons (tUn rNegU (tC (.int 1))) tNil)))))))) (tRet (tC (.bl false))) tNext)
  (tIfS (tOr (tNot (tB (tCB (rIsi K) (tCons (tOp (rIx K) (tVar 5) (tC (.int 0))) (tCons (tC (.ty "str")) tNil))))) (tTest (tOp (rNotInD K) (tTup (tCons (tOp (rIx K) (tVar 5) (tC (.int 0))) (tCons (tC (.str "make")) tNil))) (tLc (iTup K (tOp (rIx K) (tVar 0) (tC (.int 1)))) (gName 6) tYes (tSl (rSlT K) (tVar 6) tNoPart (tPart (tC (.int 2)))) [6])))) (tRet (tC (.bl false))) tNext)))
  (tRet (tC (.bl true))))))))
def t_are_asks (K : PySem.W.Frag) (w : World) : TS :=
  (tSeq (tIfS (tOr (tNot (tB (tCB (rIsi K) (tCons (tVar 1) (tCons (tC (.ty "tuple")) tNil))))) (tTest (tOp rGt (tCB (rLenX K) (tCons (tVar 1) tNil)) (tC (.int 3))))) (tRet (tC (.bl false))) tNext)
  (tSeq (tFor (iTup K (tVar 1)) (gName 3)
  (tSeq (tIfS (tOr (tNot (tB (tCB (rIsi K) (tCons (tVar 3) (tCons (tC (.ty "tuple")) tNil))))) (tOr (tTest (tOp (rNeX K) (tCB (rLenX K) (tCons (tVar 3) tNil)) (tC (.int 2)))) (tNot (tB (tCall (sp_is_between K w) [] E0 (tCons (tOp (rIx K) (tVar 3) (tC (.int 1))) (tCons (tC (.int 0)) (tCons (tOp rMinus (tVar 2) (tC (.int 1))) tNil)))))))) (tRet (tC (.bl false))) tNext)
  (tIfS (tOr (tNot (tB (tCB (rIsi K) (tCons (tOp (rIx K) (tVar 3) (tC (.int 0))) (tCons (tC (.ty "str")) tNil))))) (tTest (tOp (rIn K true) (tOp (rIx K) (tVar 3) (tC (.int 0))) (tCall (sp_trait_names K w) [] E0 (tCons (tVar 0) tNil))))) (tRet (tC (.bl false))) tNext)))
  (tRet (tCB (rAll K) (tCons (tLc (iRng1 (tCons (tOp rMinus (tCB (rLenX K) (tCons (tVar 1) tNil)) (tC (.int 1))) tNil)) (gName 4) tYes (tOp (rLtD K) (tOp (rIx K) (tVar 1) (tVar 4)) (tOp (rIx K) (tVar 1) (tOp (rPlus K) (tVar 4) (tC (.int 1))))) [4]) tNil)))))
def t_is_known_instance (K : PySem.W.Frag) (w : World) : TS :=
  (tSeq (tIfS (tOr (tNot (tB (tCB (rIsi K) (tCons (tVar 1) (tCons (tC (.ty "tuple")) tNil))))) (tOr (tTest (tOp (rNeX K) (tCB (rLenX K) (tCons (tVar 1) tNil)) (tC (.int 5)))) (tNot (tB (tCB (rAll K) (tCons (tLc (iTup K (tSl (rSlT K) (tVar 1) tNoPart (tPart (tC (.int 2))))) (gName 2) tYes (tCB (rIsi K) (tCons (tVar 2) (tCons (tC (.ty "str")) tNil))) [2]) tNil)))))) (tRet (tC (.bl false))) tNext)
  (tSeq (tAsg (tVar 1) (gTup K 5 (gCons (gName 3) (gCons (gName 4) (gCons (gName 5) (gCons (gName 6) (gCons (gName 7) gNil)))))))
  (tSeq (tAsg (tCB (rDictT K) (tCons (tOp (rIx K) (tVar 0) (tC (.int 0))) tNil)) (gName 8))
  (tSeq (tIfS (tOr (tTest (tOp (rIn K true) (tVar 3) (tCall (sp_trait_names K w) [] E0 (tCons (tVar 0) tNil)))) (tOr (tB (tDNotIn (tVar 4) (tVar 8))) (tNot (tB (tCB (rIsi K) (tCons (tVar 5) (tCons (tC (.ty "tuple")) tNil))))))) (tRet (tC (.bl false))) tNext)
  (tSeq (tIfS (tTest (tOp (rNeX K) (tCB (rLenX K) (tCons (tVar 5) tNil)) (tDGet (tVar 8) (tVar 4)))) (tRet (tC (.bl false))) tNext)
  (tSeq (tIfS (tNot (tB (tCB (rAll K) (tCons (tLc (iTup K (tVar 5)) (gName 9) tYes (tOrV (tOp rIsN (tVar 9) (tC .non)) (tAndV (tCB (rIsi K) (tCons (tVar 9) (tCons (tC (.ty "str")) tNil))) (tDIn (tVar 9) (tVar 8)))) [9]) tNil)))) (tRet (tC (.bl false))) tNext)
  (tRet (tAndV (tCall (sp_are_asks K w) [] E0 (tCons (tVar 0) (tCons (tVar 6) (tCons (tDGet (tVar 8) (tVar 4)) tNil)))) (tCall (sp_is_body K w) [] E0 (tCons (tVar 0) (tCons (tVar 3) (tCons (tVar 4) (tCons (tVar 7) tNil)))))))))))))
def t_are_instances (K : PySem.W.Frag) (w : World) : TS :=
  (tRet (tAndV (tCB (rIsi K) (tCons (tVar 1) (tCons (tC (.ty "tuple")) tNil))) (tAndV (tOp rLe (tCB (rLenX K) (tCons (tVar 1) tNil)) (tVar 2)) (tCB (rAll K) (tCons (tLc (iTup K (tVar 1)) (gName 3) tYes (tCall (sp_is_known_instance K w) [] E0 (tCons (tVar 0) (tCons (tVar 3) tNil))) [3]) tNil)))))
def t_body_asks (K : PySem.W.Frag) (w : World) (n : Nat) : TS :=
  (tSeq (tIfS (tTest (tOp (rEqX K) (tOp (rIx K) (tVar 0) (tC (.int 0))) (tC (.str "tell")))) (tRet (tLst (tCons (tTup (tCons (tOp (rIx K) (tVar 0) (tC (.int 1))) (tCons (tOp (rIx K) (tVar 0) (tC (.int 2))) tNil))) tNil))) tNext)
  (tSeq (tIfS (tTest (tOp (rEqX K) (tOp (rIx K) (tVar 0) (tC (.int 0))) (tC (.str "made")))) (tRet (tLc (iEnumT K (tCons (tSl (rSlT K) (tVar 0) (tPart (tC (.int 2))) tNoPart) tNil)) (gTup K 2 (gCons (gName 1) (gCons (gName 2) gNil))) tYes (tTup (tCons (tOp (rIx K) (tVar 2) (tC (.int 0))) (tCons (tVar 1) tNil))) [1, 2])) tNext)
  (tSeq (tAsg (tLst tNil) (gName 3))
  (tSeq (tFor (iTup K (tSl (rSlT K) (tVar 0) (tPart (tC (.int 1))) tNoPart)) (gName 4)
  (tIfS (tB (tCB (rIsi K) (tCons (tVar 4) (tCons (tC (.ty "tuple")) tNil)))) (tDrop (tBM K "list" rExtend (tVar 3) (tCons (tCall (sp_body_asks K w n) [] E0 (tCons (tVar 4) tNil)) tNil))) tNext))
  (tRet (tVar 3))))))
def t_are_rising (K : PySem.W.Frag) (w : World) : TS :=
  (tSeq (tIfS (tOr (tNot (tB (tCB (rIsi K) (tCons (tVar 0) (tCons (tC (.ty "tuple")) tNil))))) (tNot (tB (tCB (rAll K) (tCons (tLc (iTup K (tVar 0)) (gName 2) tYes (tOp (rIn K false) (tVar 2) (tVar 1)) [2]) tNil))))) (tRet (tC (.bl false))) tNext)
  (tRet (tCB (rAll K) (tCons (tLc (iRng1 (tCons (tOp rMinus (tCB (rLenX K) (tCons (tVar 0) tNil)) (tC (.int 1))) tNil)) (gName 3) tYes (tOp (rLtD K) (tOp (rIx K) (tVar 0) (tVar 3)) (tOp (rIx K) (tVar 0) (tOp (rPlus K) (tVar 3) (tC (.int 1))))) [3]) tNil))))
def t_is_module (K : PySem.W.Frag) (w : World) : TS :=
  (tSeq (tIfS (tOr (tNot (tB (tCB (rIsi K) (tCons (tVar 1) (tCons (tC (.ty "tuple")) tNil))))) (tTest (tOp (rNeX K) (tCB (rLenX K) (tCons (tVar 1) tNil)) (tC (.int 4))))) (tRet (tC (.bl false))) tNext)
  (tSeq (tAsg (tVar 1) (gTup K 4 (gCons (gName 3) (gCons (gName 4) (gCons (gName 5) (gCons (gName 6) gNil))))))
  (tSeq (tIfS (tOr (tNot (tB (tCB (rIsi K) (tCons (tVar 3) (tCons (tC (.ty "tuple")) tNil))))) (tNot (tB (tCB (rAll K) (tCons (tLc (iTup K (tVar 3)) (gName 7) tYes (tCall (sp_is_between K w) [] E0 (tCons (tVar 7) (tCons (tC (.int 0)) (tCons (tOp rMinus (tVar 2) (tC (.int 1))) tNil)))) [7]) tNil))))) (tRet (tC (.bl false))) tNext)
  (tSeq (tIfS (tOr (tNot (tB (tCall (sp_are_rising K w) [] E0 (tCons (tVar 3) (tCons (tVar 3) tNil))))) (tNot (tB (tCall (sp_are_instances K w) [] E0 (tCons (tVar 0) (tCons (tVar 6) (tCons (tC (.int 4)) tNil))))))) (tRet (tC (.bl false))) tNext)
  (tSeq (tFor (iTup K (tTup (tCons (tVar 4) (tCons (tVar 5) tNil)))) (gName 8)
  (tIfS (tOr (tNot (tB (tCB (rIsi K) (tCons (tVar 8) (tCons (tC (.ty "tuple")) tNil))))) (tNot (tB (tCB (rAll K) (tCons (tLc (iTup K (tVar 8)) (gName 7) tYes (tCB (rIsi K) (tCons (tVar 7) (tCons (tC (.ty "str")) tNil))) [7]) tNil))))) (tRet (tC (.bl false))) tNext))
  (tRet (tAndV (tCall (sp_are_rising K w) [] E0 (tCons (tVar 4) (tCons (tLc (iTup K (tOp (rIx K) (tVar 0) (tC (.int 0)))) (gName 7) tYes (tOp (rIx K) (tVar 7) (tC (.int 0))) [7]) tNil))) (tCall (sp_are_rising K w) [] E0 (tCons (tVar 5) (tCons (tCall (sp_trait_names K w) [] E0 (tCons (tVar 0) tNil)) tNil))))))))))
def t_seen_from (K : PySem.W.Frag) (w : World) : TS :=
  (tSeq (tPar 2 3 (tCons tDNewK (tCons (tCB (rListX K) (tCons (tVar 1) tNil)) tNil)))
  (tSeq (tWhile (tTest (tOp (rNeX K) (tVar 3) (tLst tNil)))
  (tSeq (tAsg (tBM0 K "list" rPop (tVar 3)) (gName 4))
  (tIfS (tB (tDNotIn (tVar 4) (tVar 2))) (tSeq (sDPut (tVar 2) (tVar 4) (tC (.bl true)))
  (tDrop (tBM K "list" (rExtendT K) (tVar 3) (tCons (tOp (rIx K) (tOp (rIx K) (tVar 0) (tVar 4)) (tC (.int 0))) tNil)))) tNext)))
  (tRet (tCB (rSortedK) (tCons (tVar 2) tNil)))))
def t_is_known (K : PySem.W.Frag) (w : World) : TS :=
  (tSeq (tAsg (tCall (sp_seen_from K w) [] E0 (tCons (tVar 1) (tCons (tLst (tCons (tVar 2) tNil)) tNil))) (gName 3))
  (tSeq (tAsg (tLc2 (iList K (tVar 3)) (gName 5) tYes (iTup K (tOp (rIx K) (tOp (rIx K) (tVar 1) (tVar 5)) (tC (.int 1)))) (gName 6) tYes (tVar 6) [5, 6] [6]) (gName 4))
  (tSeq (tAsg (tLc2 (iList K (tVar 3)) (gName 5) tYes (iTup K (tOp (rIx K) (tOp (rIx K) (tVar 1) (tVar 5)) (tC (.int 2)))) (gName 6) tYes (tVar 6) [5, 6] [6]) (gName 7))
  (tSeq (tFor (iTup K (tOp (rIx K) (tVar 0) (tC (.int 1)))) (gTup K 3 (gCons (gName 6) (gCons (gName 8) (gCons (gName 9) gNil))))
  (tIfS (tAnd (tTest (tOp (rIn K false) (tVar 6) (tOp (rIx K) (tOp (rIx K) (tVar 1) (tVar 2)) (tC (.int 2))))) (tNot (tB (tCB (rAll K) (tCons (tLc (iTup K (tVar 9)) (gName 5) tYes (tOp (rIn K false) (tVar 5) (tVar 7)) [5]) tNil))))) (tRet (tC (.bl false))) tNext))
  (tSeq (tFor (iTup K (tOp (rIx K) (tOp (rIx K) (tVar 1) (tVar 2)) (tC (.int 3)))) (gTup K 5 (gCons (gName 10) (gCons (gName 11) (gCons (gName 12) (gCons (gName 13) (gCons (gName 14) gNil))))))
  (tSeq (tAsg (tOp (rPlus K) (tLst (tCons (tVar 11) tNil)) (tLc (iTup K (tVar 12)) (gName 16) (tTest (tOp rNotN (tVar 16) (tC .non))) (tVar 16) [16])) (gName 15))
  (tSeq (tAsg (tOp (rPlus K) (tOp (rPlus K) (tLst (tCons (tVar 10) tNil)) (tLc (iTup K (tVar 13)) (gName 18) tYes (tOp (rIx K) (tVar 18) (tC (.int 0))) [18])) (tLc (iList K (tCall (sp_body_asks K w 9) [] E0 (tCons (tVar 14) tNil))) (gName 18) tYes (tOp (rIx K) (tVar 18) (tC (.int 0))) [18])) (gName 17))
  (tIfS (tOr (tNot (tB (tCB (rAll K) (tCons (tLc (iList K (tVar 15)) (gName 5) tYes (tOp (rIn K false) (tVar 5) (tVar 4)) [5]) tNil)))) (tNot (tB (tCB (rAll K) (tCons (tLc (iList K (tVar 17)) (gName 5) tYes (tOp (rIn K false) (tVar 5) (tVar 7)) [5]) tNil))))) (tRet (tC (.bl false))) tNext))))
  (tRet (tC (.bl true))))))))
def t_is_library (K : PySem.W.Frag) (w : World) : TS :=
  (tSeq (tDrop (tCall (sp_check_world K w) [] E0 (tCons (tVar 0) tNil)))
  (tSeq (tIfS (tOr (tNot (tB (tCB (rIsi K) (tCons (tVar 1) (tCons (tC (.ty "tuple")) tNil))))) (tNot (tTest (tChain rLe rLe (tC (.int 1)) (tCB (rLenX K) (tCons (tVar 1) tNil)) (tC (.int 5)))))) (tRet (tC (.bl false))) tNext)
  (tSeq (tIfS (tNot (tB (tCB (rAll K) (tCons (tLc (iEnumT K (tCons (tVar 1) tNil)) (gTup K 2 (gCons (gName 2) (gCons (gName 3) gNil))) tYes (tCall (sp_is_module K w) [] E0 (tCons (tVar 0) (tCons (tVar 3) (tCons (tVar 2) tNil)))) [2, 3]) tNil)))) (tRet (tC (.bl false))) tNext)
  (tSeq (tAsg (tCB (rSortedX K) (tCons (tLc2 (iTup K (tVar 1)) (gName 3) tYes (iTup K (tOp (rIx K) (tVar 3) (tC (.int 1)))) (gName 5) tYes (tVar 5) [3, 5] [5]) tNil)) (gName 4))
  (tSeq (tAsg (tCB (rSortedX K) (tCons (tLc2 (iTup K (tVar 1)) (gName 3) tYes (iTup K (tOp (rIx K) (tVar 3) (tC (.int 2)))) (gName 5) tYes (tVar 5) [3, 5] [5]) tNil)) (gName 6))
  (tSeq (tIfS (tOr (tTest (tOp (rNeX K) (tVar 4) (tLc (iTup K (tOp (rIx K) (tVar 0) (tC (.int 0)))) (gName 3) tYes (tOp (rIx K) (tVar 3) (tC (.int 0))) [3]))) (tTest (tOp (rNeX K) (tVar 6) (tCB (rSortedX K) (tCons (tCall (sp_trait_names K w) [] E0 (tCons (tVar 0) tNil)) tNil))))) (tRet (tC (.bl false))) tNext)
  (tRet (tCB (rAll K) (tCons (tLc (iRng1 (tCons (tCB (rLenX K) (tCons (tVar 1) tNil)) tNil)) (gName 2) tYes (tCall (sp_is_known K w) [] E0 (tCons (tVar 0) (tCons (tVar 1) (tCons (tVar 2) tNil)))) [2]) tNil)))))))))
def t_check_library (K : PySem.W.Frag) (w : World) : TS :=
  (tSeq (tDrop (tCall (sp_check_world K w) [] E0 (tCons (tVar 0) tNil)))
  (tIfS (tNot (tB (tCall (sp_is_library K w) [] E0 (tCons (tVar 0) (tCons (tVar 1) tNil))))) tNever tNext))
def t_check_module (K : PySem.W.Frag) (w : World) : TS :=
  (tIfS (tNot (tB (tCall (sp_is_between K w) [] E0 (tCons (tVar 1) (tCons (tC (.int 0)) (tCons (tOp rMinus (tCB (rLenX K) (tCons (tVar 0) tNil)) (tC (.int 1))) tNil)))))) tNever tNext)
def t_set_seen (K : PySem.W.Frag) (w : World) : TS :=
  (tSeq (tAsg (tTup tNil) (gName 2))
  (tSeq (tFor (iList K (tCall (sp_seen_from K w) [] E0 (tCons (tVar 0) (tCons (tVar 1) tNil)))) (gName 3)
  (tAsg (tOp (rPlus K) (tVar 2) (tOp (rIx K) (tOp (rIx K) (tVar 0) (tVar 3)) (tC (.int 3)))) (gName 2)))
  (tRet (tVar 2))))
def t_seen_set (K : PySem.W.Frag) (w : World) : TS :=
  (tSeq (tDrop (tCall (sp_check_library K w) [] E0 (tCons (tVar 0) (tCons (tVar 1) tNil))))
  (tSeq (tDrop (tCall (sp_check_module K w) [] E0 (tCons (tVar 1) (tCons (tVar 2) tNil))))
  (tRet (tCall (sp_set_seen K w) [] E0 (tCons (tVar 1) (tCons (tLst (tCons (tVar 2) tNil)) tNil))))))
def t_keeps_home (K : PySem.W.Frag) (w : World) : TS :=
  (tSeq (tDrop (tCall (sp_check_library K w) [] E0 (tCons (tVar 0) (tCons (tVar 1) tNil))))
  (tSeq (tDrop (tCall (sp_check_module K w) [] E0 (tCons (tVar 1) (tCons (tVar 2) tNil))))
  (tSeq (tAsg (tOp (rIx K) (tVar 1) (tVar 2)) (gTup K 4 (gCons (gName 3) (gCons (gName 4) (gCons (gName 5) (gCons (gName 6) gNil))))))
  (tRet (tCB (rAll K) (tCons (tLc (iTup K (tVar 6)) (gName 7) tYes (tOrV (tOp (rIn K false) (tOp (rIx K) (tVar 7) (tC (.int 0))) (tVar 5)) (tOp (rIn K false) (tOp (rIx K) (tVar 7) (tC (.int 1))) (tVar 4))) [7]) tNil))))))
def t__law_town (K : PySem.W.Frag) (w : World) : TS :=
  (tRet (tOp (rPlus K) (tLst (tCons (tC (.int 0)) tNil)) (tCB (rListX K) (tCons (tVar 0) tNil))))
def t__law_draw (K : PySem.W.Frag) (w : World) : TS :=
  (tSeq (tAsg (tOp (rPlus K) (tOp (rIx K) (tVar 1) (tC (.int 0))) (tC (.int 1))) (gSub (tVar 1) (tC (.int 0)) rSetL))
  (tSeq (tIfS (tTest (tOp (rEqX K) (tVar 0) (tLst tNil))) (tRet (tOp rMod (tOp rFdiv (tOp rTimes (tOp rTimes (tOp (rIx K) (tVar 1) (tC (.int 0))) (tOp (rIx K) (tVar 1) (tC (.int 0)))) (tC (.int 7))) (tC (.int 3))) (tVar 2))) tNext)
  (tSeq (tAsg (tOp rMod (tOp (rIx K) (tVar 1) (tC (.int 0))) (tCB (rLenX K) (tCons (tVar 0) tNil))) (gName 3))
  (tSeq (tAsg (tOp (rIx K) (tVar 1) (tOp (rPlus K) (tC (.int 1)) (tVar 3))) (gName 4))
  (tSeq (tIfS (tAnd (tTest (tOp rGe (tOp (rIx K) (tVar 0) (tVar 3)) (tOp rPow (tC (.int 10)) (tC (.int 18))))) (tTest (tOp rGt (tVar 4) (tC (.int 0))))) (tSeq (tAsg (tOp rFdiv (tVar 4) (tVar 2)) (gSub (tVar 1) (tOp (rPlus K) (tC (.int 1)) (tVar 3)) rSetL))
  (tRet (tOp rMod (tVar 4) (tVar 2)))) tNext)
  (tSeq (tAsg (tOp rMod (tOp (rPlus K) (tOp (rIx K) (tVar 0) (tVar 3)) (tOp rTimes (tC (.int 104729)) (tOp (rIx K) (tVar 1) (tC (.int 0))))) (tC (.int 4294967291))) (gName 5))
  (tSeq (tAsg (tOp rMod (tOp rPow (tVar 5) (tC (.int 5))) (tC (.int 4294967279))) (gName 5))
  (tRet (tOp rMod (tOp rFdiv (tOp rMod (tOp (rPlus K) (tOp rTimes (tOp rFdiv (tVar 5) (tC (.int 64))) (tC (.int 69621))) (tVar 5)) (tC (.int 4294967231))) (tC (.int 8))) (tVar 2))))))))))
def t__law_pick (K : PySem.W.Frag) (w : World) : TS :=
  (tRet (tOp (rIx K) (tVar 2) (tCall (sp__law_draw K w) [] E0 (tCons (tVar 0) (tCons (tVar 1) (tCons (tCB (rLenX K) (tCons (tVar 2) tNil)) tNil))))))
def t__law_world (K : PySem.W.Frag) (w : World) : TS :=
  (tSeq (tAsg (tLst (tCons (tTupF (tCons (tTup (tCons (tC (.str "List")) (tCons (tC (.int 1)) tNil))) (tCons (tTup (tCons (tC (.str "Num")) (tCons (tC (.int 0)) tNil))) (tCons (tTup (tCons (tC (.str "Pair")) (tCons (tC (.int 2)) tNil))) tNil)))) (tCons (tTupF (tCons (tTup (tCons (tC (.str "List")) (tCons (tC (.int 1)) tNil))) (tCons (tTup (tCons (tC (.str "Num")) (tCons (tC (.int 0)) tNil))) tNil))) (tCons (tTupF (tCons (tTup (tCons (tC (.str "Num")) (tCons (tC (.int 0)) tNil))) (tCons (tTup (tCons (tC (.str "Pair")) (tCons (tC (.int 2)) tNil))) tNil))) tNil)))) (gName 2))
  (tSeq (tAsg (tOp (rPlus K) (tVar 2) (tLst (tCons (tTupF (tCons (tTup (tCons (tC (.str "List")) (tCons (tC (.int 1)) tNil))) (tCons (tTup (tCons (tC (.str "Num")) (tCons (tC (.int 0)) tNil))) (tCons (tTup (tCons (tC (.str "Unit")) (tCons (tC (.int 0)) tNil))) tNil)))) (tCons (tTupF (tCons (tTup (tCons (tC (.str "Num")) (tCons (tC (.int 0)) tNil))) tNil)) (tCons (tTupF (tCons (tTup (tCons (tC (.str "Box")) (tCons (tC (.int 1)) tNil))) (tCons (tTup (tCons (tC (.str "List")) (tCons (tC (.int 1)) tNil))) (tCons (tTup (tCons (tC (.str "Num")) (tCons (tC (.int 0)) tNil))) tNil)))) tNil))))) (gName 2))
  (tSeq (tAsg (tOp (rPlus K) (tVar 2) (tLst (tCons (tTupF (tCons (tTup (tCons (tC (.str "List")) (tCons (tC (.int 1)) tNil))) (tCons (tTup (tCons (tC (.str "Num")) (tCons (tC (.int 0)) tNil))) (tCons (tTup (tCons (tC (.str "Pair")) (tCons (tC (.int 2)) tNil))) (tCons (tTup (tCons (tC (.str "Unit")) (tCons (tC (.int 0)) tNil))) tNil))))) (tCons (tTupF (tCons (tTup (tCons (tC (.str "List")) (tCons (tC (.int 1)) tNil))) (tCons (tTup (tCons (tC (.str "Num")) (tCons (tC (.int 0)) tNil))) (tCons (tTup (tCons (tC (.str "Pair")) (tCons (tC (.int 2)) tNil))) tNil)))) tNil)))) (gName 2))
  (tSeq (tPar 3 4 (tCons (tLst tNil) (tCons (tLst tNil) tNil)))
  (tSeq (tFor (iList K (tSl (rSlL K) (tLst (tCons (tC (.str "count")) (tCons (tC (.str "show")) (tCons (tC (.str "fresh")) tNil)))) tNoPart (tPart (tOp (rPlus K) (tC (.int 1)) (tCall (sp__law_draw K w) [] E0 (tCons (tVar 0) (tCons (tVar 1) (tCons (tC (.int 3)) tNil)))))))) (gName 5)
  (tSeq (tAsg (tCB (rTupleX K) (tCons (tCB (rSortedX K) (tCons (tLc (iList K (tVar 4)) (gName 7) (tTest (tOp (rEqX K) (tCall (sp__law_draw K w) [] E0 (tCons (tVar 0) (tCons (tVar 1) (tCons (tC (.int 3)) tNil)))) (tC (.int 0)))) (tVar 7) [7]) tNil)) tNil)) (gName 6))
  (tSeq (tAsg (tIf (tOr (tTest (tOp (rEqX K) (tVar 5) (tC (.str "fresh")))) (tTest (tOp (rEqX K) (tCall (sp__law_draw K w) [] E0 (tCons (tVar 0) (tCons (tVar 1) (tCons (tC (.int 6)) tNil)))) (tC (.int 0))))) (tC (.str "make")) (tC (.str "tell"))) (gName 8))
  (tSeq (tDrop (tBM K "list" rAppend (tVar 3) (tCons (tTup (tCons (tVar 5) (tCons (tVar 8) (tCons (tVar 6) tNil)))) tNil)))
  (tDrop (tBM K "list" rAppend (tVar 4) (tCons (tVar 5) tNil)))))))
  (tRet (tTup (tCons (tCall (sp__law_pick K w) [] E0 (tCons (tVar 0) (tCons (tVar 1) (tCons (tVar 2) tNil)))) (tCons (tCB (rTupleX K) (tCons (tVar 3) tNil)) tNil)))))))))
def t__law_traits (K : PySem.W.Frag) (w : World) : TS :=
  (tRet (tLc (iTup K (tOp (rIx K) (tVar 0) (tC (.int 1)))) (gName 1) tYes (tOp (rIx K) (tVar 1) (tC (.int 0))) [1]))
def t__law_body (K : PySem.W.Frag) (w : World) : TS :=
  (tSeq (tAsg (tOp (rIx K) (tLc (iTup K (tOp (rIx K) (tVar 2) (tC (.int 1)))) (gName 7) (tTest (tOp (rEqX K) (tOp (rIx K) (tVar 7) (tC (.int 0))) (tVar 3))) (tOp (rIx K) (tVar 7) (tC (.int 1))) [7]) (tC (.int 0))) (gName 6))
  (tSeq (tAsg (tLc (iTup K (tOp (rIx K) (tVar 2) (tC (.int 1)))) (gName 7) (tTest (tOp (rEqX K) (tOp (rIx K) (tVar 7) (tC (.int 1))) (tC (.str "tell")))) (tOp (rIx K) (tVar 7) (tC (.int 0))) [7]) (gName 8))
  (tSeq (tAsg (tTup (tCons (tC (.str "number")) (tCons (tCall (sp__law_draw K w) [] E0 (tCons (tVar 0) (tCons (tVar 1) (tCons (tC (.int 100)) tNil)))) tNil))) (gName 9))
  (tSeq (tIfS (tTest (tOp (rEqX K) (tVar 6) (tC (.str "make")))) (tSeq (tAsg (tCall (sp__law_pick K w) [] E0 (tCons (tVar 0) (tCons (tVar 1) (tCons (tLst (tCons (tTup (tCons (tC (.str "mark")) tNil)) (tCons (tTup (tCons (tC (.str "plus")) (tCons (tTup (tCons (tC (.str "mark")) tNil)) (tCons (tTup (tCons (tC (.str "number")) (tCons (tC (.int 1)) tNil))) tNil)))) (tCons (tVar 9) tNil)))) tNil)))) (gName 10))
  (tSeq (tAsg (tLc (iTup K (tOp (rIx K) (tVar 2) (tC (.int 1)))) (gName 7) (tTest (tOp (rEqX K) (tOp (rIx K) (tVar 7) (tC (.int 1))) (tC (.str "make")))) (tOp (rIx K) (tVar 7) (tC (.int 0))) [7]) (gName 11))
  (tRet (tOp (rPlus K) (tTup (tCons (tC (.str "made")) (tCons (tVar 10) tNil))) (tCB (rTupleX K) (tCons (tLc (iRng1 (tCons (tVar 4) tNil)) (gName 12) tYes (tTup (tCons (tCall (sp__law_pick K w) [] E0 (tCons (tVar 0) (tCons (tVar 1) (tCons (tVar 11) tNil)))) (tCons (tTup (tCons (tC (.str "mark")) tNil)) tNil))) [12]) tNil)))))) tNext)
  (tSeq (tAsg (tLst (tCons (tTup (tCons (tC (.str "mark")) tNil)) (tCons (tVar 9) (tCons (tTup (tCons (tC (.str "times")) (tCons (tTup (tCons (tC (.str "mark")) tNil)) (tCons (tTup (tCons (tC (.str "number")) (tCons (tC (.int 3)) tNil))) tNil)))) tNil)))) (gName 13))
  (tSeq (tFor (iTup K (tVar 5)) (gTup K 2 (gCons (gName 14) (gCons (gName 15) gNil)))
  (tIfS (tTest (tOp (rIn K false) (tVar 14) (tVar 8))) (tSeq (tAsg (tOp (rPlus K) (tVar 13) (tLst (tCons (tTup (tCons (tC (.str "tell")) (tCons (tVar 14) (tCons (tVar 15) tNil)))) (tCons (tTup (tCons (tC (.str "plus")) (tCons (tTup (tCons (tC (.str "mark")) tNil)) (tCons (tTup (tCons (tC (.str "tell")) (tCons (tVar 14) (tCons (tVar 15) tNil)))) tNil)))) tNil)))) (gName 13))
  (tDrop (tBM K "list" rAppend (tVar 13) (tCons (tTup (tCons (tC (.str "plus")) (tCons (tTup (tCons (tC (.str "tell")) (tCons (tVar 14) (tCons (tVar 15) tNil)))) (tCons (tTup (tCons (tC (.str "times")) (tCons (tTup (tCons (tC (.str "number")) (tCons (tC (.int 2)) tNil))) (tCons (tTup (tCons (tC (.str "tell")) (tCons (tVar 14) (tCons (tVar 15) tNil)))) tNil)))) tNil)))) tNil)))) tNext))
  (tSeq (tIfS (tAnd (tTest (tOp rGt (tVar 4) (tC (.int 0)))) (tTest (tOp (rEqX K) (tCall (sp__law_draw K w) [] E0 (tCons (tVar 0) (tCons (tVar 1) (tCons (tC (.int 8)) tNil)))) (tC (.int 0))))) (tSeq (tAsg (tTup (tCons (tC (.str "tell")) (tCons (tCall (sp__law_pick K w) [] E0 (tCons (tVar 0) (tCons (tVar 1) (tCons (tVar 8) tNil)))) (tCons (tCall (sp__law_draw K w) [] E0 (tCons (tVar 0) (tCons (tVar 1) (tCons (tVar 4) tNil)))) tNil)))) (gName 16))
  (tAsg (tOp (rPlus K) (tVar 13) (tLst (tCons (tVar 16) (tCons (tTup (tCons (tC (.str "plus")) (tCons (tTup (tCons (tC (.str "mark")) tNil)) (tCons (tVar 16) tNil)))) (tCons (tTup (tCons (tC (.str "times")) (tCons (tVar 16) (tCons (tTup (tCons (tC (.str "number")) (tCons (tC (.int 2)) tNil))) tNil)))) tNil))))) (gName 13))) tNext)
  (tRet (tCall (sp__law_pick K w) [] E0 (tCons (tVar 0) (tCons (tVar 1) (tCons (tVar 13) tNil))))))))))))
def t__law_instance (K : PySem.W.Frag) (w : World) : TS :=
  (tSeq (tAsg (tCall (sp__law_pick K w) [] E0 (tCons (tVar 0) (tCons (tVar 1) (tCons (tCall (sp__law_traits K w) [] E0 (tCons (tVar 2) tNil)) tNil)))) (gName 3))
  (tSeq (tAsg (tCall (sp__law_pick K w) [] E0 (tCons (tVar 0) (tCons (tVar 1) (tCons (tCB (rListX K) (tCons (tOp (rIx K) (tVar 2) (tC (.int 0))) tNil)) tNil)))) (gTup K 2 (gCons (gName 4) (gCons (gName 5) gNil))))
  (tSeq (tPar 6 7 (tCons (tLst tNil) (tCons (tLst tNil) tNil)))
  (tSeq (tFor (iRng1 (tCons (tVar 5) tNil)) (gName 8)
  (tSeq (tAsg (tCall (sp__law_pick K w) [] E0 (tCons (tVar 0) (tCons (tVar 1) (tCons (tLc (iTup K (tOp (rIx K) (tVar 2) (tC (.int 0)))) (gName 10) tYes (tOp (rIx K) (tVar 10) (tC (.int 0))) [10]) tNil)))) (gName 9))
  (tSeq (tDrop (tBM K "list" rAppend (tVar 6) (tCons (tIf (tTest (tOp (rEqX K) (tCall (sp__law_draw K w) [] E0 (tCons (tVar 0) (tCons (tVar 1) (tCons (tC (.int 4)) tNil)))) (tC (.int 0)))) (tVar 9) (tC .non)) tNil)))
  (tFor (iList K (tLst (tCons (tVar 3) (tCons (tCall (sp__law_pick K w) [] E0 (tCons (tVar 0) (tCons (tVar 1) (tCons (tCall (sp__law_traits K w) [] E0 (tCons (tVar 2) tNil)) tNil)))) tNil)))) (gName 11)
  (tIfS (tAnd (tTest (tOp (rEqX K) (tCall (sp__law_draw K w) [] E0 (tCons (tVar 0) (tCons (tVar 1) (tCons (tC (.int 2)) tNil)))) (tC (.int 0)))) (tAnd (tTest (tOp (rNotInD K) (tTup (tCons (tVar 11) (tCons (tVar 8) tNil))) (tVar 7))) (tTest (tOp (rLtD K) (tCB (rLenX K) (tCons (tVar 7) tNil)) (tC (.int 3)))))) (tDrop (tBM K "list" rAppend (tVar 7) (tCons (tTup (tCons (tVar 11) (tCons (tVar 8) tNil))) tNil))) tNext)))))
  (tSeq (tAsg (tCB (rTupleX K) (tCons (tCB (rSortedX K) (tCons (tVar 7) tNil)) tNil)) (gName 7))
  (tRet (tTup (tCons (tVar 3) (tCons (tVar 4) (tCons (tCB (rTupleX K) (tCons (tVar 6) tNil)) (tCons (tVar 7) (tCons (tCall (sp__law_body K w) [] E0 (tCons (tVar 0) (tCons (tVar 1) (tCons (tVar 2) (tCons (tVar 3) (tCons (tVar 5) (tCons (tVar 7) tNil))))))) tNil))))))))))))
def t__law_set (K : PySem.W.Frag) (w : World) : TS :=
  (tRet (tCB (rTupleX K) (tCons (tLc (iRng1 (tCons (tCall (sp__law_draw K w) [] E0 (tCons (tVar 0) (tCons (tVar 1) (tCons (tOp (rPlus K) (tVar 3) (tC (.int 1))) tNil)))) tNil)) (gName 4) tYes (tCall (sp__law_instance K w) [] E0 (tCons (tVar 0) (tCons (tVar 1) (tCons (tVar 2) tNil)))) [4]) tNil)))
def t__law_sees (K : PySem.W.Frag) (w : World) (n : Nat) : TS :=
  (tSeq (tAsg (tLst (tCons (tVar 1) tNil)) (gName 2))
  (tSeq (tFor (iTup K (tOp (rIx K) (tOp (rIx K) (tVar 0) (tVar 1)) (tC (.int 0)))) (gName 3)
  (tAsg (tOp (rPlus K) (tVar 2) (tCall (sp__law_sees K w n) [] E0 (tCons (tVar 0) (tCons (tVar 3) tNil)))) (gName 2)))
  (tRet (tCB (rSortedSet w) (tCons (tCB (rSetX K w) (tCons (tVar 2) tNil)) tNil)))))
def t__law_asked (K : PySem.W.Frag) (w : World) (n : Nat) : TS :=
  (tSeq (tIfS (tTest (tOp (rEqX K) (tOp (rIx K) (tVar 0) (tC (.int 0))) (tC (.str "made")))) (tRet (tLc (iTup K (tSl (rSlT K) (tVar 0) (tPart (tC (.int 2))) tNoPart)) (gName 1) tYes (tOp (rIx K) (tVar 1) (tC (.int 0))) [1])) tNext)
  (tSeq (tAsg (tIf (tTest (tOp (rEqX K) (tOp (rIx K) (tVar 0) (tC (.int 0))) (tC (.str "tell")))) (tLst (tCons (tOp (rIx K) (tVar 0) (tC (.int 1))) tNil)) (tLst tNil)) (gName 2))
  (tSeq (tFor (iTup K (tIf (tTest (tOp (rIn K false) (tOp (rIx K) (tVar 0) (tC (.int 0))) (tTup (tCons (tC (.str "plus")) (tCons (tC (.str "times")) tNil))))) (tSl (rSlT K) (tVar 0) (tPart (tC (.int 1))) tNoPart) (tTup tNil))) (gName 3)
  (tAsg (tOp (rPlus K) (tVar 2) (tCall (sp__law_asked K w n) [] E0 (tCons (tVar 3) tNil))) (gName 2)))
  (tRet (tVar 2)))))
def t__law_good (K : PySem.W.Frag) (w : World) : TS :=
  (tSeq (tPar 2 3 (tCons (tLst tNil) (tCons (tLst tNil) tNil)))
  (tSeq (tFor (iRng1 (tCons (tCB (rLenX K) (tCons (tVar 1) tNil)) tNil)) (gName 4)
  (tSeq (tIfS (tTest (tOp (rNeX K) (tLc (iTup K (tOp (rIx K) (tOp (rIx K) (tVar 1) (tVar 4)) (tC (.int 0)))) (gName 5) (tTest (tOp rGe (tVar 5) (tVar 4))) (tVar 5) [5]) (tLst tNil))) (tRet (tC (.bl false))) tNext)
  (tSeq (tAsg (tOp (rPlus K) (tVar 2) (tCB (rListX K) (tCons (tOp (rIx K) (tOp (rIx K) (tVar 1) (tVar 4)) (tC (.int 1))) tNil))) (gName 2))
  (tAsg (tOp (rPlus K) (tVar 3) (tCB (rListX K) (tCons (tOp (rIx K) (tOp (rIx K) (tVar 1) (tVar 4)) (tC (.int 2))) tNil))) (gName 3)))))
  (tSeq (tIfS (tOr (tTest (tOp (rNeX K) (tCB (rSortedX K) (tCons (tVar 2) tNil)) (tLc (iTup K (tOp (rIx K) (tVar 0) (tC (.int 0)))) (gName 6) tYes (tOp (rIx K) (tVar 6) (tC (.int 0))) [6]))) (tTest (tOp (rNeX K) (tCB (rSortedX K) (tCons (tVar 3) tNil)) (tCB (rSortedX K) (tCons (tCall (sp__law_traits K w) [] E0 (tCons (tVar 0) tNil)) tNil))))) (tRet (tC (.bl false))) tNext)
  (tSeq (tFor (iRng1 (tCons (tCB (rLenX K) (tCons (tVar 1) tNil)) tNil)) (gName 4)
  (tSeq (tAsg (tCall (sp__law_sees K w 9) [] E0 (tCons (tVar 1) (tCons (tVar 4) tNil))) (gName 7))
  (tSeq (tFor (iTup K (tOp (rIx K) (tOp (rIx K) (tVar 1) (tVar 4)) (tC (.int 3)))) (gTup K 5 (gCons (gName 8) (gCons (gName 9) (gCons (gName 10) (gCons (gName 11) (gCons (gName 12) gNil))))))
  (tSeq (tAsg (tOp (rPlus K) (tLst (tCons (tVar 9) tNil)) (tLc (iTup K (tVar 10)) (gName 14) (tTest (tOp rNotN (tVar 14) (tC .non))) (tVar 14) [14])) (gName 13))
  (tSeq (tFor (iList K (tVar 7)) (gName 5)
  (tAsg (tLc (iList K (tVar 13)) (gName 15) (tTest (tOp (rIn K true) (tVar 15) (tOp (rIx K) (tOp (rIx K) (tVar 1) (tVar 5)) (tC (.int 1))))) (tVar 15) [15]) (gName 13)))
  (tSeq (tAsg (tOp (rPlus K) (tOp (rPlus K) (tLst (tCons (tVar 8) tNil)) (tLc (iTup K (tVar 11)) (gName 17) tYes (tOp (rIx K) (tVar 17) (tC (.int 0))) [17])) (tCall (sp__law_asked K w 9) [] E0 (tCons (tVar 12) tNil))) (gName 16))
  (tSeq (tFor (iList K (tVar 7)) (gName 5)
  (tAsg (tLc (iList K (tVar 16)) (gName 15) (tTest (tOp (rIn K true) (tVar 15) (tOp (rIx K) (tOp (rIx K) (tVar 1) (tVar 5)) (tC (.int 2))))) (tVar 15) [15]) (gName 16)))
  (tIfS (tTest (tOp (rNeX K) (tOp (rPlus K) (tVar 13) (tVar 16)) (tLst tNil))) (tRet (tC (.bl false))) tNext))))))
  (tFor (iTup K (tOp (rIx K) (tVar 0) (tC (.int 1)))) (gTup K 3 (gCons (gName 15) (gCons (gName 18) (gCons (gName 19) gNil))))
  (tSeq (tAsg (tIf (tTest (tOp (rIn K false) (tVar 15) (tOp (rIx K) (tOp (rIx K) (tVar 1) (tVar 4)) (tC (.int 2))))) (tCB (rListX K) (tCons (tVar 19) tNil)) (tLst tNil)) (gName 20))
  (tSeq (tFor (iList K (tVar 7)) (gName 5)
  (tAsg (tLc (iList K (tVar 20)) (gName 21) (tTest (tOp (rIn K true) (tVar 21) (tOp (rIx K) (tOp (rIx K) (tVar 1) (tVar 5)) (tC (.int 2))))) (tVar 21) [21]) (gName 20)))
  (tIfS (tTest (tOp (rNeX K) (tVar 20) (tLst tNil))) (tRet (tC (.bl false))) tNext)))))))
  (tRet (tC (.bl true)))))))
def t__law_library (K : PySem.W.Frag) (w : World) : TS :=
  (tSeq (tAsg (tTup (tCons (tOp (rPlus K) (tC (.int 1)) (tCall (sp__law_draw K w) [] E0 (tCons (tVar 0) (tCons (tVar 1) (tCons (tC (.int 4)) tNil))))) (tCons (tLst tNil) tNil))) (gTup K 2 (gCons (gName 3) (gCons (gName 4) gNil))))
  (tSeq (tAsg (tLc (iRng1 (tCons (tOp (rPlus K) (tCB (rLenX K) (tCons (tOp (rIx K) (tVar 2) (tC (.int 0))) tNil)) (tCB (rLenX K) (tCons (tOp (rIx K) (tVar 2) (tC (.int 1))) tNil))) tNil)) (gName 6) tYes (tCall (sp__law_draw K w) [] E0 (tCons (tVar 0) (tCons (tVar 1) (tCons (tVar 3) tNil)))) [6]) (gName 5))
  (tSeq (tFor (iRng1 (tCons (tVar 3) tNil)) (gName 6)
  (tSeq (tAsg (tCB (rTupleX K) (tCons (tLc (iRng1 (tCons (tVar 6) tNil)) (gName 8) (tTest (tOp rGt (tCall (sp__law_draw K w) [] E0 (tCons (tVar 0) (tCons (tVar 1) (tCons (tC (.int 4)) tNil)))) (tC (.int 0)))) (tVar 8) [8]) tNil)) (gName 7))
  (tSeq (tAsg (tCB (rTupleX K) (tCons (tLc (iEnumT K (tCons (tOp (rIx K) (tVar 2) (tC (.int 0))) tNil)) (gTup K 2 (gCons (gName 10) (gCons (gName 11) gNil))) (tTest (tOp (rEqX K) (tOp (rIx K) (tVar 5) (tVar 10)) (tVar 6))) (tOp (rIx K) (tVar 11) (tC (.int 0))) [10, 11]) tNil)) (gName 9))
  (tSeq (tAsg (tCB (rTupleX K) (tCons (tCB (rSortedX K) (tCons (tLc (iEnumT K (tCons (tOp (rIx K) (tVar 2) (tC (.int 1))) tNil)) (gTup K 2 (gCons (gName 10) (gCons (gName 11) gNil))) (tTest (tOp (rEqX K) (tOp (rIx K) (tVar 5) (tOp (rPlus K) (tCB (rLenX K) (tCons (tOp (rIx K) (tVar 2) (tC (.int 0))) tNil)) (tVar 10))) (tVar 6))) (tOp (rIx K) (tVar 11) (tC (.int 0))) [10, 11]) tNil)) tNil)) (gName 12))
  (tSeq (tAsg (tIf (tTest (tOp rGt (tVar 6) (tC (.int 0)))) (tCall (sp__law_set K w) [] E0 (tCons (tVar 0) (tCons (tVar 1) (tCons (tVar 2) (tCons (tC (.int 2)) tNil))))) (tTup tNil)) (gName 13))
  (tDrop (tBM K "list" rAppend (tVar 4) (tCons (tTup (tCons (tVar 7) (tCons (tVar 9) (tCons (tVar 12) (tCons (tVar 13) tNil))))) tNil))))))))
  (tRet (tCB (rTupleX K) (tCons (tVar 4) tNil))))))
def t_law (K : PySem.W.Frag) (w : World) : TS :=
  (tSeq (tAsg (tCall (sp__law_town K w) [] E0 (tCons (tVar 0) tNil)) (gName 1))
  (tSeq (tAsg (tCall (sp__law_world K w) [] E0 (tCons (tVar 0) (tCons (tVar 1) tNil))) (gName 2))
  (tSeq (tFor (iRng1 (tCons (tC (.int 5)) tNil)) (gName 3)
  (tSeq (tAsg (tCall (sp__law_library K w) [] E0 (tCons (tVar 0) (tCons (tVar 1) (tCons (tVar 2) tNil)))) (gName 4))
  (tSeq (tAsg (tCall (sp__law_good K w) [] E0 (tCons (tVar 2) (tCons (tVar 4) tNil))) (gName 5))
  (tSeq (tIfS (tOr (tTest (tOp (rNeX K) (tCall (sp_is_library K w) [] E0 (tCons (tVar 2) (tCons (tVar 4) tNil))) (tVar 5))) (tB (tCall (sp_is_library K w) [] E0 (tCons (tVar 2) (tCons (tCB (rListX K) (tCons (tVar 4) tNil)) tNil))))) (tRet (tC (.bl false))) tNext)
  (tIfS (tB (tVar 5)) (tFor (iRng1 (tCons (tCB (rLenX K) (tCons (tVar 4) tNil)) tNil)) (gName 6)
  (tSeq (tAsg (tTup tNil) (gName 7))
  (tSeq (tFor (iList K (tCall (sp__law_sees K w 9) [] E0 (tCons (tVar 4) (tCons (tVar 6) tNil)))) (gName 8)
  (tAsg (tOp (rPlus K) (tVar 7) (tOp (rIx K) (tOp (rIx K) (tVar 4) (tVar 8)) (tC (.int 3)))) (gName 7)))
  (tSeq (tIfS (tTest (tOp (rNeX K) (tCall (sp_seen_set K w) [] E0 (tCons (tVar 2) (tCons (tVar 4) (tCons (tVar 6) tNil)))) (tVar 7))) (tRet (tC (.bl false))) tNext)
  (tSeq (tAsg (tLc (iTup K (tOp (rIx K) (tOp (rIx K) (tVar 4) (tVar 6)) (tC (.int 3)))) (gName 10) (tTest (tOp (rIn K true) (tOp (rIx K) (tVar 10) (tC (.int 0))) (tOp (rIx K) (tOp (rIx K) (tVar 4) (tVar 6)) (tC (.int 2))))) (tVar 10) [10]) (gName 9))
  (tSeq (tAsg (tLc (iList K (tVar 9)) (gName 10) (tTest (tOp (rIn K true) (tOp (rIx K) (tVar 10) (tC (.int 1))) (tOp (rIx K) (tOp (rIx K) (tVar 4) (tVar 6)) (tC (.int 1))))) (tVar 10) [10]) (gName 9))
  (tIfS (tTest (tOp (rNeX K) (tCall (sp_keeps_home K w) [] E0 (tCons (tVar 2) (tCons (tVar 4) (tCons (tVar 6) tNil)))) (tOp (rEqX K) (tVar 9) (tLst tNil)))) (tRet (tC (.bl false))) tNext))))))) tNext)))))
  (tSeq (tAsg (tTup (tCons (tTup tNil) (tCons (tCB (rTupleX K) (tCons (tLc (iTup K (tOp (rIx K) (tVar 2) (tC (.int 0)))) (gName 12) tYes (tOp (rIx K) (tVar 12) (tC (.int 0))) [12]) tNil)) (tCons (tCB (rTupleX K) (tCons (tCB (rSortedX K) (tCons (tCall (sp__law_traits K w) [] E0 (tCons (tVar 2) tNil)) tNil)) tNil)) (tCons (tTup tNil) tNil))))) (gName 11))
  (tSeq (tAsg (tLst (tCons (tC .non) (tCons (tC (.int 5)) (tCons (tTup tNil) (tCons (tTup (tCons (tTup tNil) tNil)) (tCons (tTup (tCons (tVar 11) (tCons (tVar 11) tNil))) (tCons (tTup (tCons (tSl (rSlT K) (tVar 11) tNoPart (tPart (tC (.int 3)))) tNil)) (tCons (tTup (tCons (tLst tNil) tNil)) (tCons (tTup (tCons (tOp (rPlus K) (tTup (tCons (tTup (tCons (tC (.int 0)) tNil)) tNil)) (tSl (rSlT K) (tVar 11) (tPart (tC (.int 1))) tNoPart)) tNil)) (tCons (tTup (tCons (tOp (rPlus K) (tTup (tCons (tC .non) tNil)) (tSl (rSlT K) (tVar 11) (tPart (tC (.int 1))) tNoPart)) tNil)) tNil)))))))))) (gName 13))
  (tSeq (tAsg (tOp (rPlus K) (tVar 13) (tLst (tCons (tTup (tCons (tOp (rPlus K) (tOp (rPlus K) (tSl (rSlT K) (tVar 11) tNoPart (tPart (tC (.int 1)))) (tTup (tCons (tSl (rSlT K) (tOp (rIx K) (tVar 11) (tC (.int 1))) tNoPart (tPart (tUn rNegU (tC (.int 1))))) tNil))) (tSl (rSlT K) (tVar 11) (tPart (tC (.int 2))) tNoPart)) tNil)) (tCons (tTup (tCons (tOp (rPlus K) (tSl (rSlT K) (tVar 11) tNoPart (tPart (tC (.int 3)))) (tTup (tCons (tTup (tCons (tC .non) tNil)) tNil))) tNil)) (tCons (tOp (rRepT K) (tTup (tCons (tVar 11) tNil)) (tC (.int 6))) tNil))))) (gName 13))
  (tSeq (tDrop (tBM K "list" rAppend (tVar 13) (tCons (tTup (tCons (tOp (rPlus K) (tSl (rSlT K) (tVar 11) tNoPart (tPart (tC (.int 2)))) (tTup (tCons (tC (.str "no")) (tCons (tTup tNil) tNil)))) tNil)) tNil)))
  (tSeq (tIfS (tTest (tOp (rNeX K) (tLc (iList K (tVar 13)) (gName 14) (tTest (tOp rNotB (tCall (sp_is_library K w) [] E0 (tCons (tVar 2) (tCons (tVar 14) tNil))) (tC (.bl false)))) (tVar 14) [14]) (tLst tNil))) (tRet (tC (.bl false))) tNext)
  (tRet (tAndV (tOp rIsB (tCall (sp_is_library K w) [] E0 (tCons (tVar 2) (tCons (tTup (tCons (tVar 11) tNil)) tNil))) (tC (.bl true))) (tOp rIsB (tCall (sp_is_library K w) [] E0 (tCons (tVar 2) (tCons (tTup (tCons (tVar 11) (tCons (tTup (tCons (tTup (tCons (tC (.int 0)) tNil)) (tCons (tTup tNil) (tCons (tTup tNil) (tCons (tTup tNil) tNil))))) tNil))) tNil))) (tC (.bl true)))))))))))))
end Lib

namespace Lib
open PySem L2 PySem.Spec PyProof.Rows Evl
section
variable {K : PySem.W.Frag} {w : World} {H : Hp}
/-- a def's reading keeps its promise -/
abbrev Keeps (sp : Sp) (N : List Str) (t : TS) : Prop := ∀ vs H Q E, sp vs H Q E → t { nx := fun _ H' => Q .non H', rt := Q } (start N vs) H
theorem args1 {vs : List V} {a : Dat} (r : RpAll K H vs [a]) : ∃ v1, vs = [v1] ∧ Rp K H v1 a := by
  cases r with
  | cons h1 r =>
    cases r
    exact ⟨_, rfl, h1⟩
theorem args2 {vs : List V} {a b : Dat} (r : RpAll K H vs [a, b]) : ∃ v1 v2, vs = [v1, v2] ∧ Rp K H v1 a ∧ Rp K H v2 b := by
  cases r with
  | cons h1 r =>
    obtain ⟨v2, e, h2⟩ := args1 r
    subst e
    exact ⟨_, _, rfl, h1, h2⟩
theorem args3 {vs : List V} {a b c : Dat} (r : RpAll K H vs [a, b, c]) : ∃ v1 v2 v3, vs = [v1, v2, v3] ∧ Rp K H v1 a ∧ Rp K H v2 b ∧ Rp K H v3 c := by
  cases r with
  | cons h1 r =>
    obtain ⟨v2, v3, e, h2, h3⟩ := args2 r
    subst e
    exact ⟨_, _, _, rfl, h1, h2, h3⟩
theorem args4 {vs : List V} {a b c d : Dat} (r : RpAll K H vs [a, b, c, d]) : ∃ v1 v2 v3 v4, vs = [v1, v2, v3, v4] ∧ Rp K H v1 a ∧ Rp K H v2 b ∧ Rp K H v3 c ∧ Rp K H v4 d := by
  cases r with
  | cons h1 r =>
    obtain ⟨v2, v3, v4, e, h2, h3, h4⟩ := args3 r
    subst e
    exact ⟨_, _, _, _, rfl, h1, h2, h3, h4⟩
theorem rd_is_between : Keeps (sp_is_between K w) N_is_between (t_is_between K w) := by
  rintro vs H Q E ⟨ds, r, ra, ⟨d, lo, hi, rfl, rfl⟩, k⟩
  obtain ⟨v0, v1, v2, rfl, r0, r1, r2⟩ := args3 ra
  have isI := evd_isiI (K := K) (H := H) (σ := start N_is_between [v0, v1, v2]) (ta := tVar 0) (evd_var rfl r0)
  have isB := evd_isiB (K := K) (H := H) (σ := start N_is_between [v0, v1, v2]) (ta := tVar 0) (evd_var rfl r0)
  refine d_ret ?_ (Ex.refl H) k
  cases d with
  | int i => exact evf (evd_is (evd_and isI fun _ => evd_and (evd_not isB) fun _ => evd_between (evd_var rfl r1) (evd_var rfl r0) (evd_var rfl r2)) rfl)
  | bl b => exact evf (evd_is (evd_and isI fun _ => evd_and (b := false) (evd_not isB) fun h => nomatch h) rfl)
  | non => exact evf (evd_is (evd_and (b := false) isI fun h => nomatch h) rfl)
  | str _ => exact evf (evd_is (evd_and (b := false) isI fun h => nomatch h) rfl)
  | lst _ => exact evf (evd_is (evd_and (b := false) isI fun h => nomatch h) rfl)
  | tup _ => exact evf (evd_is (evd_and (b := false) isI fun h => nomatch h) rfl)
  | ptup _ => exact evf (evd_is (evd_and (b := false) isI fun h => nomatch h) rfl)
theorem rd_are_small : Keeps (sp_are_small K w) N_are_small (t_are_small K w) := by
  rintro vs H Q E ⟨ds, r, ra, ⟨s, lo, hi, rfl, len, rfl⟩, k⟩
  obtain ⟨v0, v1, v2, rfl, r0, r1, r2⟩ := args3 ra
  refine d_ret (evf (evd_is (evd_and (evd_isiS (evd_var rfl r0)) fun _ => evd_and (evd_between (evd_var rfl r1) (evd_lenS (evd_var rfl r0) len) (evd_var rfl r2)) fun _ => evd_all (bs := s.cps.toList.map fun c => decide (c ∈ sSMALL.cps.toList)) ?_) ?_)) (Ex.refl H) k
  · refine evd_is (evf_lcM (fun c : Nat => Dat.str ⟨#[c]⟩) (fun c => .bl (decide (c ∈ sSMALL.cps.toList))) (src_str (evd_var rfl r0)) (by simpa [Str.length] using len) (fun _ _ => rfl) fun c _ x H1 _ rx => ⟨_, tgt1, rfl, evd_inC (evd_var rfl rx) evd_str⟩).dd ?_
    rw [List.map_map]
    rfl
  · unfold smallB
    rw [List.all_map]
    simp [Dat.isS, Bool.and_assoc]
/-- what is_constructor looks at, of the constructors that are drawn -/
def conOk (c : Str × Nat) : Bool := (match c.1.cps.toList with | h :: _ => decide (h ∈ sGREAT.cps.toList) | [] => false) && smallB (cutS c.1 (some 1) none) 0 5 && !decide (c.1 = "") && decide (c.1.length ≤ 1000) && decide (c.2 ≤ 2) && decide ((cutS c.1 (some 1) none).length ≤ 1000)
theorem con_ok : ∀ c, c ∈ allCons → conOk c = true := by
  intro c m
  have q : allCons.all conOk = true := by decide +kernel
  exact List.all_eq_true.mp q c m
theorem rd_is_constructor : Keeps (sp_is_constructor K w) N_is_constructor (t_is_constructor K w) := by
  rintro vs H Q E ⟨ds, r, ra, ⟨c, hc, rfl, rfl⟩, k⟩
  obtain ⟨v0, rfl, r0⟩ := args1 ra
  have ok := con_ok c hc
  unfold conOk at ok
  simp only [Bool.and_eq_true, decide_eq_true_eq, Bool.not_eq_true', decide_eq_false_iff_not] at ok
  obtain ⟨⟨⟨⟨⟨o1, o2⟩, o3⟩, o4⟩, o5⟩, o6⟩ := ok
  obtain ⟨h, hh, hg⟩ : ∃ h, c.1.cps.toList[0]? = some h ∧ h ∈ sGREAT.cps.toList := by
    cases e : c.1.cps.toList with
    | nil => rw [e] at o1; cases o1
    | cons h t =>
      rw [e] at o1
      exact ⟨h, rfl, of_decide_eq_true o1⟩
  have V0 : ∀ {H1}, Ex H H1 → Evd K (tVar 0) (start N_is_constructor [v0]) H1 (consD c) := fun e => evd_var rfl (r0.ex e)
  have I0 : ∀ {H1}, Ex H H1 → Evd K (tOp (rIx K) (tVar 0) (tC (.int 0))) (start N_is_constructor [v0]) H1 (.str c.1) := fun e => evd_ix 0 (V0 e) evd_int (.inl (.inl rfl)) rfl rfl
  refine q_when (b := false) ?_ (fun h => nomatch h) fun _ H1 e1 => ?_
  · refine et_or (a := false) (et_is (et_not (et_B (evd_isiT (V0 (Ex.refl H))))) rfl) fun _ => ?_
    refine et_or (a := false) (et_is (et_T (evd_neI (evd_len (V0 (Ex.refl H)) (.inl (.inl rfl))) evd_int)) rfl) fun _ => ?_
    refine et_or (a := false) (b := false) (et_is (et_not (et_B (evd_isiS (I0 (Ex.refl H))))) rfl) fun _ => ?_
    exact et_is (et_T (evd_eqS (I0 (Ex.refl H)) evd_str)) (decide_eq_false o3)
  · refine d_ret (evf (evd_is (evd_and (a := true) (b := true) (evd_is (evd_inC (evd_ixS 0 (I0 e1) evd_int rfl hh o4) evd_str) ?_) fun _ => evd_and (b := true) (a := true) (evd_call (eva_cons (evd_slS (I0 e1) (evo_some evd_int) evo_none o4) (eva_cons evd_int (eva_cons evd_int eva_nil))) ⟨_, _, _, rfl, o6, ?_⟩) fun _ =>
      evd_call (eva_cons (evd_ix 1 (V0 e1) evd_int (.inl (.inl rfl)) rfl rfl) (eva_cons evd_int (eva_cons evd_int eva_nil))) ⟨_, _, _, rfl, ?_⟩) rfl)) e1 k
    · rw [decide_eq_true hg]
    · rw [o2]
    · show Dat.bl true = Dat.bl (decide ((0 : Int) ≤ (c.2 : Int)) && decide ((c.2 : Int) ≤ 2))
      rw [decide_eq_true (by omega : (0 : Int) ≤ (c.2 : Int)), decide_eq_true (by omega : (c.2 : Int) ≤ 2)]
      rfl
theorem gt_len : ∀ {ts}, GoodT ts → ts.length ≤ 3 := by
  intro ts h
  cases h <;> simp
theorem gt_nd : ∀ {ts}, GoodT ts → (ts.map (·.1)).Nodup := by
  intro ts h
  cases h <;> simp <;> decide +kernel
theorem gw_few {W : Wd} (gw : GoodW W) : W.traits.length ≤ 1000 := Nat.le_trans (gt_len gw.tra) (by decide)
theorem nd_of_map {α β : Type} {f : α → β} {l : List α} (h : (l.map f).Nodup) : l.Nodup := by
  have q := List.pairwise_map.mp h
  exact q.imp fun hne e => hne (by rw [e])
theorem rd_trait_names : Keeps (sp_trait_names K w) N_trait_names (t_trait_names K w) := by
  rintro vs H Q E ⟨ds, r, ra, ⟨W, gw, rfl, rfl⟩, k⟩
  obtain ⟨v0, rfl, r0⟩ := args1 ra
  have few := gw_few gw
  refine d_ret (evf_is (evf_lcM traitD (fun t => .str t.1) (src_tup (evd_ix 1 (evd_var rfl r0) evd_int (.inl (.inl rfl)) rfl rfl) (.inl rfl)) few (fun _ _ => rfl) fun t _ x H1 e1 rx => ?_) ?_) (Ex.refl H) k
  · obtain ⟨a, b, c, ha, hb, hc, tg⟩ := tgt3 rx (.inl rfl)
    exact ⟨_, tg _, rfl, evd_var rfl ha⟩
  · rw [List.map_map]
    rfl
theorem filter_one {α : Type} (p : α → Bool) : ∀ {l : List α} {x : α}, x ∈ l → p x = true → (∀ y, y ∈ l → p y = true → y = x) → l.Nodup → l.filter p = [x]
  | y :: l, x, m, px, u, nd => by
    have nd := List.nodup_cons.mp nd
    rw [List.filter_cons]
    rcases List.mem_cons.mp m with e | m
    · subst e
      rw [if_pos px]
      have : l.filter p = [] := by
        rw [List.filter_eq_nil_iff]
        intro z mz pz
        have := u z (List.mem_cons_of_mem _ mz) pz
        subst this
        exact nd.1 mz
      rw [this]
    · have py : ¬ p y = true := by
        intro py
        have := u y List.mem_cons_self py
        subst this
        exact nd.1 m
      rw [if_neg py]
      exact filter_one p m px (fun z mz pz => u z (List.mem_cons_of_mem _ mz) pz) nd.2
theorem tn_nd {W : Wd} (gw : GoodW W) : (tn W).Nodup := gt_nd gw.tra
theorem tr_one {W : Wd} (gw : GoodW W) {t : Str} {f g : Bool} {b c : List Str} (h1 : (t, f, b) ∈ W.traits) (h2 : (t, g, c) ∈ W.traits) : (t, f, b) = (t, g, c) := by
  have nd := tn_nd gw
  obtain ⟨i, hi, e1⟩ := List.getElem_of_mem h1
  obtain ⟨j, hj, e2⟩ := List.getElem_of_mem h2
  have q : i = j := by
    refine (List.getElem_inj (h₀ := by simpa using hi) (h₁ := by simpa using hj) nd).mp ?_
    simp [e1, e2]
  subst q
  rw [← e1, ← e2]
theorem rd_form_of : Keeps (sp_form_of K w) N_form_of (t_form_of K w) := by
  rintro vs H Q E ⟨ds, r, ra, ⟨W, t, f, b, gw, ht, rfl, rfl⟩, k⟩
  obtain ⟨v0, v1, rfl, r0, r1⟩ := args2 ra
  have few := gw_few gw
  have one : (W.traits.filter fun x => decide (x.1 = t)) = [(t, f, b)] := by
    refine filter_one _ ht (by simp) (fun y my py => ?_) (nd_of_map (tn_nd gw))
    obtain ⟨t', f', b'⟩ := y
    have e : t' = t := of_decide_eq_true py
    subst e
    exact (tr_one gw ht my).symm
  refine d_ret (evf (evd_ix 0 (evd_is (evf_lcF traitD (fun t => .str (formS t.2.1)) (fun x => decide (x.1 = t)) (src_tup (evd_ix 1 (evd_var rfl r0) evd_int (.inl (.inl rfl)) rfl rfl) (.inl rfl)) few (fun _ _ => rfl) fun y _ x H1 e1 rx => ?_).dd (by rw [one])) evd_int (.inr rfl) rfl rfl)) (Ex.refl H) k
  obtain ⟨a, b, c, ha, hb, hc, tg⟩ := tgt3 rx (.inl rfl)
  exact ⟨_, tg _, rfl, et_T (evd_eqS (evd_var rfl ha) (evd_var rfl (r1.ex e1))), fun _ => evd_var rfl hb⟩
end
end Lib

namespace Lib
open PySem L2 PySem.Spec PyProof.Rows Evl
section
variable {K : PySem.W.Frag} {w : World} {H H0 : Hp} {σ : L2.St}
theorem wipe1 {j : Nat} {x : V} : wipe ((wipe σ [j]).set j (some x)) [j] = wipe σ [j] := by
  show (((σ.set j none).set j (some x)).set j none) = σ.set j none
  rw [List.set_set, List.set_set]
theorem slot1 {i j : Nat} {x : V} {o : Option (Option V)} (h : σ[i]? = o) (n : j ≠ i) : ((wipe σ [j]).set j (some x))[i]? = o := by
  show ((σ.set j none).set j (some x))[i]? = o
  rw [List.getElem?_set_ne n, List.getElem?_set_ne n]
  exact h
theorem slot0 {j : Nat} {x : V} (h : j < σ.length) : ((wipe σ [j]).set j (some x))[j]? = some (some x) := by
  show ((σ.set j none).set j (some x))[j]? = _
  rw [List.getElem?_set_self (by rw [List.length_set]; exact h)]
/-- two neighbours that rise -/
def Step (a b : Dat) : Prop := PySem.W.alike a.out b.out = true ∧ a.out ≠ .none ∧ a.out.depth ≤ 60 ∧ PySem.W.dataLt a.out b.out = true
theorem step_str {a b : Str} (h : strLt a b = true) : Step (.str a) (.str b) := by
  unfold Step
  rw [Dat.out, Dat.out]
  exact ⟨by simp [PySem.W.alike], by simp, by simp [PyData.depth], by rw [PySem.W.dataLt_str]; exact h⟩
theorem step_int {a b : Int} (h : a < b) : Step (.int a) (.int b) := by
  unfold Step
  rw [Dat.out, Dat.out]
  exact ⟨by simp [PySem.W.alike], by simp, by simp [PyData.depth], by rw [PySem.W.dataLt_int]; exact decide_eq_true h⟩
theorem map_true {α : Type} {f : α → Bool} {l : List α} (h : ∀ a, a ∈ l → f a = true) : (l.map f).all id = true := by
  rw [List.all_map, List.all_eq_true]
  exact h
theorem all_true : ∀ n : Nat, (List.replicate n true).all id = true
  | 0 => rfl
  | n + 1 => by rw [List.replicate_succ, List.all_cons, all_true n]; rfl
/-- all([xs[k] < xs[k + 1] for k in range(len(xs) - 1)]), where each is below the next -/
theorem evd_rising {i j : Nat} {v : V} {d : Dat} {ds : List Dat} (hv : σ[i]? = some (some v)) (hj : j < σ.length) (n : j ≠ i) (r : Rp K H v d) (s : IsT d ds) (few : ds.length ≤ 1000)
    (up : ∀ (k : Nat) a b, ds[k]? = some a → ds[k + 1]? = some b → Step a b) :
    Evd K (tCB (rAll K) (tCons (tLc (iRng1 (tCons (tOp rMinus (tCB (rLenX K) (tCons (tVar i) tNil)) (tC (.int 1))) tNil)) (gName j) tYes (tOp (rLtD K) (tOp (rIx K) (tVar i) (tVar j)) (tOp (rIx K) (tVar i) (tOp (rPlus K) (tVar j) (tC (.int 1))))) [j]) tNil)) σ H (.bl true) := by
  have src := src_range (K := K) (σ := σ) (H := H) (tl := tOp rMinus (tCB (rLenX K) (tCons (tVar i) tNil)) (tC (.int 1))) (n := (ds.length : Int) - 1) (evd_sub (evd_len (evd_var hv r) (.inl s)) evd_int) (by omega) (by omega)
  refine evd_is (evd_all (bs := (List.range ((ds.length : Int) - 1).toNat).map fun _ => true) (evd_is (evf_lcM (te := tOp (rLtD K) (tOp (rIx K) (tVar i) (tVar j)) (tOp (rIx K) (tVar i) (tOp (rPlus K) (tVar j) (tC (.int 1))))) (fun k : Nat => Dat.int (k : Nat)) (fun _ => Dat.bl true) src (by rw [List.length_range]; omega) (fun _ _ => rfl) fun k hk x H1 e1 rx => ?_).dd ?_)) ?_
  · have hk := List.mem_range.mp hk
    have k1 : k + 1 < ds.length := by omega
    obtain ⟨al, nn, dep, lt⟩ := up k ds[k] ds[k + 1] (List.getElem?_eq_getElem (by omega)) (List.getElem?_eq_getElem k1)
    refine ⟨_, tgt1, wipe1, evd_is (evd_lt (evd_ix k (evd_var (slot1 hv n) (r.ex e1)) (evd_var (slot0 hj) rx) (.inl s) rfl (List.getElem?_eq_getElem (by omega))) (evd_ix (k + 1) (evd_var (slot1 hv n) (r.ex e1)) (evd_add (evd_var (slot0 hj) rx) evd_int) (.inl s) (by omega) (List.getElem?_eq_getElem k1)) al nn dep) (by rw [lt])⟩
  · rw [List.map_map]
    rfl
  · rw [map_true fun _ _ => rfl]
theorem up_strs {ss : List Str} (h : ss.Pairwise fun a b => strLt a b = true) : ∀ (k : Nat) a b, (ss.map Dat.str)[k]? = some a → (ss.map Dat.str)[k + 1]? = some b → Step a b := by
  intro k a b ha hb
  rw [List.getElem?_map] at ha hb
  cases e1 : ss[k]? with
  | none => rw [e1] at ha; cases ha
  | some x =>
    cases e2 : ss[k + 1]? with
    | none => rw [e2] at hb; cases hb
    | some y =>
      rw [e1] at ha
      rw [e2] at hb
      cases ha
      cases hb
      obtain ⟨h1, x1⟩ := List.getElem?_eq_some_iff.mp e1
      obtain ⟨h2, x2⟩ := List.getElem?_eq_some_iff.mp e2
      have q := List.pairwise_iff_getElem.mp h k (k + 1) h1 h2 (Nat.lt_succ_self k)
      rw [x1, x2] at q
      exact step_str q
/-- what are_traits looks at -/
structure TurnT (ts : List (Str × Bool × List Str)) (i : Nat) (t : Str × Bool × List Str) : Prop where
  small : smallB t.1 1 6 = true
  len : t.1.length ≤ 1000
  new : ¬ t.1 ∈ (ts.take i).map (·.1)
  below : ∀ b, b ∈ t.2.2 → b ∈ (ts.take i).map (·.1)
  up : t.2.2.Pairwise fun a b => strLt a b = true
  few : t.2.2.length ≤ 10
def turnN (ns : List Str) (s : Str) (bs : List Str) : Bool :=
  smallB s 1 6 && decide (s.length ≤ 1000) && !decide (s ∈ ns) && bs.all (fun b => decide (b ∈ ns)) && decide (bs.Pairwise fun a b => strLt a b = true) && decide (bs.length ≤ 10)
theorem turn_of {ts : List (Str × Bool × List Str)} {i : Nat} {t : Str × Bool × List Str} (h : turnN ((ts.take i).map (·.1)) t.1 t.2.2 = true) : TurnT ts i t := by
  unfold turnN at h
  simp only [Bool.and_eq_true, decide_eq_true_eq, Bool.not_eq_true', decide_eq_false_iff_not, List.all_eq_true] at h
  obtain ⟨⟨⟨⟨⟨h1, h2⟩, h3⟩, h4⟩, h5⟩, h6⟩ := h
  exact ⟨h1, h2, h3, h4, h5, h6⟩
theorem turn_a : turnN [] "count" [] = true := by decide +kernel
theorem turn_b {b : List Str} (h : b ∈ ([[], ["count"]] : List (List Str))) : turnN ["count"] "show" b = true := by
  have q : ([[], ["count"]] : List (List Str)).all (turnN ["count"] "show") = true := by decide +kernel
  exact List.all_eq_true.mp q b h
theorem turn_c {b : List Str} (h : b ∈ ([[], ["count"], ["show"], ["count", "show"]] : List (List Str))) : turnN ["count", "show"] "fresh" b = true := by
  have q : ([[], ["count"], ["show"], ["count", "show"]] : List (List Str)).all (turnN ["count", "show"] "fresh") = true := by decide +kernel
  exact List.all_eq_true.mp q b h
theorem turn_t {ts : List (Str × Bool × List Str)} (g : GoodT ts) {i : Nat} {t : Str × Bool × List Str} (h : ts[i]? = some t) : TurnT ts i t := by
  refine turn_of ?_
  cases g with
  | one f =>
    match i, h with
    | 0, h => cases h; exact turn_a
    | i + 1, h => simp at h
  | two f g b hb =>
    match i, h with
    | 0, h => cases h; exact turn_a
    | 1, h => cases h; exact turn_b hb
    | i + 2, h => simp at h
  | three f g b c hb hc =>
    match i, h with
    | 0, h => cases h; exact turn_a
    | 1, h => cases h; exact turn_b hb
    | 2, h => cases h; exact turn_c hc
    | i + 3, h => simp at h
theorem still_strs (ss : List Str) : stillAll (ss.map Dat.str) = true := still_all fun d m => by
  obtain ⟨s, _, e⟩ := List.mem_map.mp m
  rw [← e]
  rfl
theorem still_traits (ts : List (Str × Bool × List Str)) : stillAll (ts.map traitD) = true := still_all fun d m => by
  obtain ⟨s, _, e⟩ := List.mem_map.mp m
  rw [← e]
  simp [Dat.still, stillAll, still_strs]
theorem get_map {α β : Type} {f : α → β} {l : List α} {i : Nat} {y : β} (h : (l.map f)[i]? = some y) : ∃ x, l[i]? = some x ∧ y = f x := by
  rw [List.getElem?_map] at h
  cases e : l[i]? with
  | none => rw [e] at h; cases h
  | some x => rw [e] at h; exact ⟨x, rfl, (Option.some.inj h).symm⟩
theorem formS_in (f : Bool) : formS f ∈ (["tell", "make"] : List Str) := by cases f <;> simp [formS]
theorem take_map {α β : Type} (f : α → β) {l : List α} {i : Nat} {x : α} (h : l[i]? = some x) : (l.take (i + 1)).map f = (l.take i).map f ++ [f x] := by
  rw [List.take_add_one, h, List.map_append]
  rfl
theorem rd_are_traits : Keeps (sp_are_traits K w) N_are_traits (t_are_traits K w) := by
  rintro vs H Q E ⟨ds, r, ra, ⟨ts, gt, rfl, rfl⟩, k⟩
  obtain ⟨v0, rfl, r0⟩ := args1 ra
  have l3 := gt_len gt
  have l1 : 1 ≤ ts.length := by cases gt <;> simp
  refine q_when (b := false) ?_ (fun h => nomatch h) fun _ H1 e1 => ?_
  · refine et_or (a := false) (b := false) (et_is (et_not (et_B (evd_isiT (evd_var rfl r0)))) rfl) fun _ => ?_
    refine et_is (et_not (et_T (evd_between evd_int (evd_len (evd_var rfl r0) (.inl (.inl rfl))) evd_int))) ?_
    rw [decide_eq_true (show (1 : Int) ≤ ((ts.map traitD).length : Int) by rw [List.length_map]; omega), decide_eq_true (show ((ts.map traitD).length : Int) ≤ 4 by rw [List.length_map]; omega)]
    rfl
  refine q_setF (K := K) (evf_lst eva_nil) fun v H2 e2 r2 f2 => ?_
  obtain ⟨p, rfl, fp⟩ := f2 _ rfl
  obtain ⟨_, xs, ep, hp, rp⟩ := rp_L r2
  cases ep
  cases rp
  have fp0 : H p = none := fresh_back e1 fp
  refine q_forTD (evd_var rfl (r0.ex (e1.trans e2))) (.inl rfl) (still_traits ts) (fun i σ' H' => ∃ x2 x3 x4 x5 : Option V, σ' = [some v0, some (.ref p), x2, x3, x4, x5, none, none] ∧ Ex H H' ∧ H' p = some (.lst (((ts.take i).map (·.1)).map V.str)))
    (fun H3 e3 => ⟨none, none, none, none, rfl, (e1.trans e2).trans e3, e3 _ _ hp⟩) ?_ ?_
  · rintro i di x σ' H' hi ⟨x2, x3, x4, x5, rfl, ex, hp'⟩ rx
    obtain ⟨t, ht, rfl⟩ := get_map hi
    have tt := turn_t gt ht
    have hil := (List.getElem?_eq_some_iff.mp ht).1
    have rp' : Rp K H' (.ref p) (.lst (((ts.take i).map (·.1)).map .str)) := .lst hp' (strs_rpAll _)
    refine q_when (b := false) ?_ (fun h => nomatch h) fun _ H4 e4 => ?_
    · refine et_or (a := false) (b := false) (et_is (et_not (et_B (evd_isiT (evd_var rfl rx)))) rfl) fun _ => ?_
      refine et_or (a := false) (b := false) (et_is (et_T (evd_neI (evd_len (evd_var rfl rx) (.inl (.inl rfl))) evd_int)) rfl) fun _ => ?_
      refine et_or (a := false) (b := false) (et_is (et_not (et_B (evd_call (eva_cons (evd_ix 0 (evd_var rfl rx) evd_int (.inl (.inl rfl)) rfl rfl) (eva_cons evd_int (eva_cons evd_int eva_nil))) ⟨_, _, _, rfl, tt.len, rfl⟩))) (by rw [tt.small]; rfl)) fun _ => ?_
      exact et_is (et_T (evd_inS (evd_ix 0 (evd_var rfl rx) evd_int (.inl (.inl rfl)) rfl rfl) (evd_var rfl rp') (.inr rfl))) (decide_eq_false tt.new)
    refine q_unp (evd_var rfl (rx.ex e4)) fun v5 H5 e5 r5 => ?_
    obtain ⟨a, b, c, ha, hb, hc, tg⟩ := tgt3 r5 (.inl rfl)
    refine ⟨_, tg _, ?_⟩
    refine q_when (b := false) ?_ (fun h => nomatch h) fun _ H6 e6 => ?_
    · refine et_or (a := false) (b := false) (et_is (et_not (et_B (evd_isiS (evd_var rfl hb)))) rfl) fun _ => ?_
      refine et_or (a := false) (b := false) (et_is (et_T (evd_niS (ss := ["tell", "make"]) (evd_var rfl hb) (evd_tup (eva_cons evd_str (eva_cons evd_str eva_nil))) (.inl (.inl rfl)))) (by rw [decide_eq_true (formS_in _)]; rfl)) fun _ => ?_
      exact et_is (et_not (et_B (evd_isiT (evd_var rfl hc)))) rfl
    have ex6 := ((ex.trans e4).trans e5).trans e6
    have rp6 := rp'.ex ((e4.trans e5).trans e6)
    refine q_when (b := false) ?_ (fun h => nomatch h) fun _ H7 e7 => ?_
    · refine et_is (et_not (et_B (evd_all (bs := t.2.2.map fun _ => true) (evd_is (evf_lcM Dat.str (fun _ => Dat.bl true) (src_tup (evd_var rfl (hc.ex e6)) (.inl rfl)) (by have := tt.few; omega) (fun _ _ => rfl) fun s hs x H8 e8 rx8 => ?_).dd (by rw [List.map_map]; rfl))))) (by rw [map_true fun _ _ => rfl]; rfl)
      exact ⟨_, tgt1, rfl, evd_is (evd_and (evd_isiS (evd_var rfl rx8)) fun _ => evd_inS (evd_var rfl rx8) (evd_var rfl (rp6.ex e8)) (.inr rfl)) (by rw [decide_eq_true (tt.below s hs)]; rfl)⟩
    refine q_when (b := false) ?_ (fun h => nomatch h) fun _ H8 e8 => ?_
    · exact et_is (et_not (et_B (evd_rising (i := 5) (j := 7) rfl (by simp) (by decide) (hc.ex (e6.trans e7)) (.inl rfl) (by rw [List.length_map]; have := tt.few; omega) (up_strs tt.up)))) rfl
    have ha8 := ha.ex ((e6.trans e7).trans e8)
    refine d_app (p := p) rfl (((e6.trans e7).trans e8) _ _ ((e4.trans e5) _ _ hp')) (by simp; omega) (evd_var rfl ha8) fun z H9 e9 r9 => ⟨?_, ?_⟩
    · exact Ton.upd (Ton.of ((((e4.trans e5).trans e6).trans e7).trans (e8.trans e9))) ((((e6.trans e7).trans e8).trans e9) _ _ ((e4.trans e5) _ _ hp'))
    · have ez := rp_str r9
      subst ez
      refine ⟨_, _, _, _, rfl, Ex.mut (ex6.trans (e7.trans (e8.trans e9))) fp0, ?_⟩
      rw [upd_same, take_map (·.1) ht, List.map_append]
      rfl
  · rintro σ' H' ⟨x2, x3, x4, x5, rfl, ex, hp'⟩
    exact d_ret (evf evd_bl) ex k
end
end Lib

/-! short words for what most lines do -/
namespace Lib
open PySem L2 PySem.Spec PyProof.Rows Evl
section
variable {K : PySem.W.Frag} {σ : L2.St} {H H' H0 : Hp} {ta tb tc te tl td ty : TE} {t u : TT} {d e a0 a1 a2 a3 a4 : Dat} {ds es : List Dat} {D : Ends} {tu tw tz : TS} {g : TG}
theorem iT : IsT (.tup ds) ds := .inl rfl
theorem pT : IsT (.ptup ds) ds := .inr rfl
theorem sT : IsS (.tup ds) ds := .inl (.inl rfl)
theorem sP : IsS (.ptup ds) ds := .inl (.inr rfl)
theorem sL : IsS (.lst ds) ds := .inr rfl
theorem q_pass (h : EvT t σ H false) (k : ∀ H1, Ex H H1 → tz D σ H1) : tSeq (tIfS t tu tNext) tz D σ H := q_when h (fun z => nomatch z) fun _ => k
theorem d_pass (h : EvT t σ H false) (k : ∀ H1, Ex H H1 → D.nx σ H1) : tIfS t tu tNext D σ H := d_when h (fun z => nomatch z) fun _ => k
theorem q_take (h : EvT t σ H true) (k : ∀ H1, Ex H H1 → tu { D with nx := tz D } σ H1) : tSeq (tIfS t tu tNext) tz D σ H := q_when h (fun _ => k) (fun z => nomatch z)
theorem d_take (h : EvT t σ H true) (k : ∀ H1, Ex H H1 → tu D σ H1) : tIfS t tu tNext D σ H := d_when h (fun _ => k) (fun z => nomatch z)
theorem or_f (h1 : EvT t σ H false) (h2 : EvT u σ H false) : EvT (tOr t u) σ H false := et_or (a := false) (b := false) h1 fun _ => h2
theorem or_1 (h1 : EvT t σ H true) : EvT (tOr t u) σ H true := et_or (a := true) (b := true) h1 fun z => nomatch z
theorem or_2 (h1 : EvT t σ H false) (h2 : EvT u σ H true) : EvT (tOr t u) σ H true := et_or (a := false) (b := true) h1 fun _ => h2
theorem no_B (h : Evd K te σ H (.bl true)) : EvT (tNot (tB te)) σ H false := et_not (et_B h)
theorem ya_B (h : Evd K te σ H (.bl false)) : EvT (tNot (tB te)) σ H true := et_not (et_B h)
theorem nt_T (h : Evd K ta σ H d) (e : d.isT = true := by rfl) : EvT (tNot (tB (tCB (rIsi K) (tCons ta (tCons (tC (.ty "tuple")) tNil))))) σ H false := no_B (evd_is (evd_isiT h) (by rw [e]))
theorem ya_T (h : Evd K ta σ H d) (e : d.isT = false := by rfl) : EvT (tNot (tB (tCB (rIsi K) (tCons ta (tCons (tC (.ty "tuple")) tNil))))) σ H true := ya_B (evd_is (evd_isiT h) (by rw [e]))
theorem nt_S (h : Evd K ta σ H d) (e : d.isS = true := by rfl) : EvT (tNot (tB (tCB (rIsi K) (tCons ta (tCons (tC (.ty "str")) tNil))))) σ H false := no_B (evd_is (evd_isiS h) (by rw [e]))
theorem ne_len {n : Int} (h : Evd K ta σ H d) (s : IsS d ds) (e : (ds.length : Int) = n) : EvT (tTest (tOp (rNeX K) (tCB (rLenX K) (tCons ta tNil)) (tC (.int n)))) σ H false :=
  et_is (et_T (evd_neI (evd_len h s) evd_int)) (by rw [decide_eq_true e]; rfl)
theorem ne_lenY {n : Int} (h : Evd K ta σ H d) (s : IsS d ds) (e : ¬ (ds.length : Int) = n) : EvT (tTest (tOp (rNeX K) (tCB (rLenX K) (tCons ta tNil)) (tC (.int n)))) σ H true :=
  et_is (et_T (evd_neI (evd_len h s) evd_int)) (by rw [decide_eq_false e]; rfl)
theorem eq_len {n : Int} (h : Evd K ta σ H d) (s : IsS d ds) (e : (ds.length : Int) = n) : Evd K (tOp (rEqX K) (tCB (rLenX K) (tCons ta tNil)) (tC (.int n))) σ H (.bl true) :=
  evd_is (evd_eqI (evd_len h s) evd_int) (by rw [decide_eq_true e])
theorem and_t {b : Bool} (h1 : Evd K ta σ H (.bl true)) (h2 : Evd K tb σ H (.bl b)) : Evd K (tAndV ta tb) σ H (.bl b) := evd_is (evd_and h1 fun _ => h2) (by rw [Bool.true_and])
theorem and_f (h1 : Evd K ta σ H (.bl false)) : Evd K (tAndV ta tb) σ H (.bl false) := evd_and (b := false) h1 fun z => nomatch z
theorem eqS_f {x y : Str} (h1 : Evd K ta σ H (.str x)) (n : ¬ x = y) : EvT (tTest (tOp (rEqX K) ta (tC (.str y)))) σ H false := et_is (et_T (evd_eqS h1 evd_str)) (decide_eq_false n)
theorem eqS_t {x y : Str} (h1 : Evd K ta σ H (.str x)) (n : x = y) : EvT (tTest (tOp (rEqX K) ta (tC (.str y)))) σ H true := et_is (et_T (evd_eqS h1 evd_str)) (decide_eq_true n)
theorem neS_f {x y : Str} (h1 : Evd K ta σ H (.str x)) (n : x = y) : EvT (tTest (tOp (rNeX K) ta (tC (.str y)))) σ H false := et_is (et_T (evd_neS h1 evd_str)) (by rw [decide_eq_true n]; rfl)
theorem ix0 (h : Evd K te σ H (.tup (a0 :: ds))) : Evd K (tOp (rIx K) te (tC (.int 0))) σ H a0 := evd_ix 0 h evd_int sT rfl rfl
theorem ix1 (h : Evd K te σ H (.tup (a0 :: a1 :: ds))) : Evd K (tOp (rIx K) te (tC (.int 1))) σ H a1 := evd_ix 1 h evd_int sT rfl rfl
theorem ix2 (h : Evd K te σ H (.tup (a0 :: a1 :: a2 :: ds))) : Evd K (tOp (rIx K) te (tC (.int 2))) σ H a2 := evd_ix 2 h evd_int sT rfl rfl
theorem ix3 (h : Evd K te σ H (.tup (a0 :: a1 :: a2 :: a3 :: ds))) : Evd K (tOp (rIx K) te (tC (.int 3))) σ H a3 := evd_ix 3 h evd_int sT rfl rfl
theorem eva1 (h : Evd K ta σ H d) : EvdA K (tCons ta tNil) σ H [d] := eva_cons h eva_nil
theorem eva2 (h : Evd K ta σ H d) (h2 : Evd K tb σ H e) : EvdA K (tCons ta (tCons tb tNil)) σ H [d, e] := eva_cons h (eva1 h2)
theorem eva3 (h : Evd K ta σ H d) (h2 : Evd K tb σ H e) (h3 : Evd K tc σ H a0) : EvdA K (tCons ta (tCons tb (tCons tc tNil))) σ H [d, e, a0] := eva_cons h (eva2 h2 h3)
theorem eva4 (h : Evd K ta σ H d) (h2 : Evd K tb σ H e) (h3 : Evd K tc σ H a0) (h4 : Evd K te σ H a1) : EvdA K (tCons ta (tCons tb (tCons tc (tCons te tNil)))) σ H [d, e, a0, a1] := eva_cons h (eva3 h2 h3 h4)
/-- xs[1:], xs[2:], xs[:2] -/
theorem sl1 (h : Evd K te σ H (.tup (a0 :: ds))) : Evd K (tSl (rSlT K) te (tPart (tC (.int 1))) tNoPart) σ H (.tup ds) := evd_slT h (evo_some evd_int) evo_none iT (by
    rintro ⟨z, _⟩
    simp [HT.sIx] at z) (by
    have e : HT.sIx (a0 :: ds).length 0 (some 1) = 1 := by simp [HT.sIx]
    unfold cutD
    rw [e]
    simp [HT.sIx])
theorem sl2 (h : Evd K te σ H (.tup (a0 :: a1 :: ds))) : Evd K (tSl (rSlT K) te (tPart (tC (.int 2))) tNoPart) σ H (.tup ds) := evd_slT h (evo_some evd_int) evo_none iT (by
    rintro ⟨z, _⟩
    simp [HT.sIx] at z) (by
    have e : HT.sIx (a0 :: a1 :: ds).length 0 (some 2) = 2 := by simp [HT.sIx]
    unfold cutD
    rw [e]
    simp [HT.sIx])
/-- all([.. for .. in ..]) -/
theorem evd_allM {α : Type} {xs : List α} (enc : α → Dat) (f : α → Bool) {wi : TI} {g : TG} {vs : List Nat} (s : Src K wi σ H (xs.map enc)) (len : xs.length ≤ 1000)
    (body : ∀ a, a ∈ xs → ∀ x H1, Ex H H1 → Rp K H1 x (enc a) → ∃ σ2, Tgt g x (wipe σ vs) H1 σ2 ∧ wipe σ2 vs = wipe σ vs ∧ Evd K te σ2 H1 (.bl (f a))) :
    Evd K (tCB (rAll K) (tCons (tLc wi g tYes te vs) tNil)) σ H (.bl (xs.all f)) :=
  evd_is (evd_all (bs := xs.map f) (evd_is (evf_lcM enc (fun a => .bl (f a)) s len (fun _ _ => rfl) body).dd (by rw [List.map_map]; rfl))) (by rw [List.all_map]; rfl)
theorem evd_anyM {α : Type} {xs : List α} (enc : α → Dat) (f : α → Bool) {wi : TI} {g : TG} {vs : List Nat} (s : Src K wi σ H (xs.map enc)) (len : xs.length ≤ 1000)
    (body : ∀ a, a ∈ xs → ∀ x H1, Ex H H1 → Rp K H1 x (enc a) → ∃ σ2, Tgt g x (wipe σ vs) H1 σ2 ∧ wipe σ2 vs = wipe σ vs ∧ Evd K te σ2 H1 (.bl (f a))) :
    Evd K (tCB (rAny K) (tCons (tLc wi g tYes te vs) tNil)) σ H (.bl (xs.any f)) :=
  evd_is (evd_any (bs := xs.map f) (evd_is (evf_lcM enc (fun a => .bl (f a)) s len (fun _ _ => rfl) body).dd (by rw [List.map_map]; rfl))) (by rw [List.any_map]; rfl)
theorem evd_allT {α : Type} {xs : List α} (enc : α → Dat) {wi : TI} {g : TG} {vs : List Nat} (s : Src K wi σ H (xs.map enc)) (len : xs.length ≤ 1000)
    (body : ∀ a, a ∈ xs → ∀ x H1, Ex H H1 → Rp K H1 x (enc a) → ∃ σ2, Tgt g x (wipe σ vs) H1 σ2 ∧ wipe σ2 vs = wipe σ vs ∧ Evd K te σ2 H1 (.bl true)) :
    Evd K (tCB (rAll K) (tCons (tLc wi g tYes te vs) tNil)) σ H (.bl true) :=
  evd_is (evd_allM enc (fun _ => true) s len body) (by rw [List.all_eq_true.mpr fun _ _ => rfl])
/-! ### tables -/
abbrev CnT := Str × Nat
abbrev cnD (c : CnT) : Dat := .tup [.str c.1, .int (c.2 : Nat)]
def tabK (cs : List CnT) : List (Key × V) := cs.map fun c => (.inr c.1, .int (c.2 : Nat))
/-- te gives a dict -/
def EvK (te : TE) (σ : L2.St) (H : Hp) (kvs : List (Key × V)) : Prop := ∀ H1, Ex H H1 → ∀ Q : VK, (∀ p H2, Ex H1 H2 → H2 p = some (.dK kvs) → Q (.ref p) H2) → te σ H1 Q
theorem pairs_of : ∀ {xs : List V} {cs : List CnT}, RpAll K H xs (cs.map cnD) → ∃ ps : List Addr, xs = ps.map V.ref ∧ Paired (fun p (kv : Key × V) => SqT K H p [kV kv.1, kv.2]) ps (tabK cs)
  | xs, [], r => by
    cases r
    exact ⟨[], rfl, .nil⟩
  | xs, c :: cs, r => by
    cases r with
    | cons h r =>
      obtain ⟨ps, e, q⟩ := pairs_of r
      obtain ⟨p, ys, ep, hp, rp⟩ := rp_T h (.inl rfl)
      cases rp with
      | cons r1 rp =>
        cases rp with
        | cons r2 rp =>
          cases rp
          rw [rp_str r1, rp_int r2] at hp
          exact ⟨p :: ps, by rw [e, ep]; rfl, .cons hp q⟩
theorem evk_dict {cs : List CnT} (h : Evd K te σ H (.ptup (cs.map cnD))) : EvK (tCB (rDictT K) (tCons te tNil)) σ H (mergeK [] (tabK cs)) := fun H1 x Q q => h H1 x _ fun v H2 e2 r => by
  cases r with
  | ptup ha ho ra =>
    obtain ⟨ps, e, pp⟩ := pairs_of ra
    subst e
    exact ⟨_, ps, tabK cs, _, rfl, ha, ho, pp, fun p hp => q p _ (e2.trans (Ex.new hp)) upd_same⟩
theorem evk_var {i : Nat} {p : Addr} {kvs : List (Key × V)} (h : σ[i]? = some (some (.ref p))) (hp : H p = some (.dK kvs)) : EvK (tVar i) σ H kvs := fun H1 x Q q => ⟨_, h, q p H1 (Ex.refl H1) (x _ _ hp)⟩
theorem evd_dget {kvs : List (Key × V)} {s : Str} {n : Int} (h : EvK td σ H kvs) (h2 : Evd K ty σ H (.str s)) (e : valV kvs (.inr s) = some (.int n)) : Evd K (tDGet td ty) σ H (.int n) := fun H1 x Q q =>
  h H1 x _ fun p H2 e2 hp => h2 H2 (x.trans e2) _ fun y H3 e3 ry => ⟨p, .int n, rfl, by
    rw [rp_str ry, ← e]
    exact DGet.k (k := .inr s) (e3 _ _ hp), q _ H3 (e2.trans e3) (.int n)⟩
theorem evd_din {kvs : List (Key × V)} {s : Str} (h2 : Evd K ty σ H (.str s)) (h : EvK td σ H kvs) : Evd K (tDIn ty td) σ H (.bl (valV kvs (.inr s)).isSome) := fun H1 x Q q =>
  h2 H1 x _ fun y H2 e2 ry => h H2 (x.trans e2) _ fun p H3 e3 hp => ⟨p, valV kvs (.inr s), rfl, by
    rw [rp_str ry]
    exact DGet.k (k := .inr s) hp, q _ H3 (e2.trans e3) (.bl _)⟩
theorem evd_dni {kvs : List (Key × V)} {s : Str} (h2 : Evd K ty σ H (.str s)) (h : EvK td σ H kvs) : Evd K (tDNotIn ty td) σ H (.bl (!(valV kvs (.inr s)).isSome)) := fun H1 x Q q =>
  h2 H1 x _ fun y H2 e2 ry => h H2 (x.trans e2) _ fun p H3 e3 hp => ⟨p, valV kvs (.inr s), rfl, by
    rw [rp_str ry]
    exact DGet.k (k := .inr s) hp, q _ H3 (e2.trans e3) (.bl _)⟩
end
end Lib

namespace Lib
open PySem L2 PySem.Spec PyProof.Rows Evl
section
variable {K : PySem.W.Frag} {w : World} {H H0 : Hp} {σ : L2.St}
/-! ### the rows of constructors -/
structure RowF (r : List (Str × Nat)) : Prop where
  pos : 1 ≤ r.length
  few : r.length ≤ 4
  all : ∀ c, c ∈ r → c ∈ allCons
  up : r.Pairwise fun a b => strLt a.1 b.1 = true
  zero : r.any (fun c => decide ((c.2 : Int) = 0)) = true
  tab : ∀ c, c ∈ r → valV (mergeK [] (tabK r)) (.inr c.1) = some (.int (c.2 : Nat))
def rowB (r : List (Str × Nat)) : Bool := decide (1 ≤ r.length) && decide (r.length ≤ 4) && r.all (fun c => decide (c ∈ allCons)) && decide (r.Pairwise fun a b => strLt a.1 b.1 = true) &&
  r.any (fun c => decide ((c.2 : Int) = 0)) && r.all fun c => decide (valV (mergeK [] (tabK r)) (.inr c.1) = some (.int (c.2 : Nat)))
theorem row_f {r : List (Str × Nat)} (h : r ∈ rowsOf) : RowF r := by
  have q : rowsOf.all rowB = true := by decide +kernel
  have q := List.all_eq_true.mp q r h
  unfold rowB at q
  simp only [Bool.and_eq_true, decide_eq_true_eq, List.all_eq_true] at q
  obtain ⟨⟨⟨⟨⟨h1, h2⟩, h3⟩, h4⟩, h5⟩, h6⟩ := q
  exact ⟨h1, h2, h3, h4, h5, h6⟩
theorem still_cons (cs : List (Str × Nat)) : stillAll (cs.map consD) = true := still_all fun d m => by
  obtain ⟨s, _, e⟩ := List.mem_map.mp m
  rw [← e]
  rfl
theorem rd_is_world : Keeps (sp_is_world K w) N_is_world (t_is_world K w) := by
  rintro vs H Q E ⟨ds, r, ra, ⟨W, gw, rfl, rfl⟩, k⟩
  obtain ⟨v0, rfl, r0⟩ := args1 ra
  have rf := row_f gw.row
  have few := rf.few
  refine q_pass (or_f (nt_T (evd_var rfl r0)) (or_f (ne_len (evd_var rfl r0) sT rfl) (nt_T (ix0 (evd_var rfl r0))))) fun H1 e1 => ?_
  refine q_set (ix0 (evd_var rfl (r0.ex e1))) fun v1 H2 e2 r1 => ?_
  have len : ((W.cons.map consD).length : Int) = W.cons.length := by rw [List.length_map]
  refine q_pass (or_f ?_ (no_B (evd_allT consD (src_tup (evd_var rfl r1) pT) (by omega) fun c hc x H3 e3 rx => ⟨_, tgt1, rfl, evd_call (eva1 (evd_var rfl rx)) ⟨c, rf.all c hc, rfl, rfl⟩⟩))) fun H3 e3 => ?_
  · refine et_is (et_not (et_T (evd_between evd_int (evd_len (evd_var rfl r1) sP) evd_int))) ?_
    have := rf.pos
    rw [len, decide_eq_true (by omega : (1 : Int) ≤ (W.cons.length : Int)), decide_eq_true (by omega : (W.cons.length : Int) ≤ 4)]
    rfl
  have r1' := r1.ex e3
  refine q_pass (no_B (K := K) ?_) fun H4 e4 => ?_
  · refine evd_allT (fun k : Nat => Dat.int (k : Nat)) (xs := List.range ((W.cons.length : Int) - 1).toNat) (src_range (n := (W.cons.length : Int) - 1) (evd_sub (evd_is (evd_len (evd_var rfl r1') sP) (by rw [len])) evd_int) (by omega) (by omega)) (by rw [List.length_range]; omega) fun k hk x H5 e5 rx => ?_
    have hk := List.mem_range.mp hk
    have k1 : k + 1 < W.cons.length := by omega
    have up := List.pairwise_iff_getElem.mp rf.up k (k + 1) (by omega) k1 (Nat.lt_succ_self k)
    refine ⟨_, tgt1, rfl, evd_is (evd_ltS (ix0 (evd_ix (x := consD W.cons[k]) k (evd_var rfl (r1'.ex e5)) (evd_var rfl rx) sP rfl ?_)) (ix0 (evd_ix (x := consD W.cons[k + 1]) (k + 1) (evd_var rfl (r1'.ex e5)) (evd_add (evd_var rfl rx) evd_int) sP (by omega) ?_))) ?_⟩
    · rw [List.getElem?_map, List.getElem?_eq_getElem (by omega)]; rfl
    · rw [List.getElem?_map, List.getElem?_eq_getElem k1]; rfl
    · rw [← up]; rfl
  refine d_ret (evf (and_t ?_ (evd_call (eva1 (ix1 (evd_var rfl (r0.ex (((e1.trans e2).trans e3).trans e4))))) ⟨_, gw.tra, rfl, rfl⟩))) (((e1.trans e2).trans e3).trans e4) k
  refine evd_is (evd_anyM consD (fun c => decide ((c.2 : Int) = 0)) (src_tup (evd_var rfl (r1'.ex e4)) pT) (by omega) fun c hc x H5 e5 rx => ?_) (by rw [rf.zero])
  obtain ⟨a, b, ha, hb, tg⟩ := tgt2 rx iT
  exact ⟨_, tg _, rfl, evd_eqI (evd_var rfl hb) evd_int⟩
theorem rd_check_world : Keeps (sp_check_world K w) N_check_world (t_check_world K w) := by
  rintro vs H Q E ⟨ds, r, ra, ⟨W, gw, rfl, rfl⟩, k⟩
  obtain ⟨v0, rfl, r0⟩ := args1 ra
  exact d_pass (no_B (evd_call (eva1 (evd_var rfl r0)) ⟨W, gw, rfl, rfl⟩)) fun H1 e1 => k _ H1 e1 .non (frs_not rfl)
/-! ### reckonings -/
theorem rd_reckoned (n : Nat) : Keeps (sp_reckoned K w (n + 1)) N_reckoned (t_reckoned K w n) := by
  rintro vs H Q E ⟨ds, r, ra, ⟨x, dep, rfl, rfl⟩, k⟩
  obtain ⟨v0, rfl, r0⟩ := args1 ra
  refine d_ret (evf (d := .int (x.count : Nat)) ?_) (Ex.refl H) k
  have flat : ∀ (h : Str) (zs : List Dat), Rp K H v0 (.tup (.str h :: zs)) → (∀ z, z ∈ zs → z.isT = false) → zs.length ≤ 10 → Evd K (tOp (rPlus K) (tC (.int 1)) (tCB (rSum K) (tCons (tLc (iTup K (tSl (rSlT K) (tVar 0) (tPart (tC (.int 1))) tNoPart)) (gName 1) (tB (tCB (rIsi K) (tCons (tVar 1) (tCons (tC (.ty "tuple")) tNil)))) (tCall (sp_reckoned K w n) [] E0 (tCons (tVar 1) tNil)) [1]) tNil))) (start N_reckoned [v0]) H (.int 1) := by
    intro h zs rz nz len
    refine evd_is (evd_add evd_int (evd_sum (ns := []) (evd_is (evf_lcF (fun z : Dat => z) (fun _ => .non) (fun _ => false) (src_tup (sl1 (evd_var rfl rz)) (by rw [List.map_id']; exact iT)) (by omega) (fun _ _ => rfl) fun z hz x H1 e1 rx => ?_).dd (by simp)))) rfl
    exact ⟨_, tgt1, rfl, et_is (et_B (evd_isiT (evd_var rfl rx))) (nz z hz), fun z => nomatch z⟩
  have two : ∀ (h : Str) (a b : Rk), Rp K H v0 (.tup [.str h, a.d, b.d]) → a.depth ≤ n → b.depth ≤ n → Evd K (tOp (rPlus K) (tC (.int 1)) (tCB (rSum K) (tCons (tLc (iTup K (tSl (rSlT K) (tVar 0) (tPart (tC (.int 1))) tNoPart)) (gName 1) (tB (tCB (rIsi K) (tCons (tVar 1) (tCons (tC (.ty "tuple")) tNil)))) (tCall (sp_reckoned K w n) [] E0 (tCons (tVar 1) tNil)) [1]) tNil))) (start N_reckoned [v0]) H (.int ((1 + a.count + b.count : Nat) : Int)) := by
    intro h a b rz ha hb
    refine evd_is (evd_add evd_int (evd_sum (ns := [a, b].map fun x => ((x.count : Nat) : Int)) (evd_is (evf_lcF (xs := [a, b]) Rk.d (fun x => .int (x.count : Nat)) (fun _ => true) (src_tup (sl1 (evd_var rfl rz)) iT) (by simp) (fun _ _ => rfl) fun z hz x H1 e1 rx => ?_).dd (by simp)))) (by simp; omega)
    have hz' : z.depth ≤ n := by
      rcases List.mem_cons.mp hz with e | hz
      · rw [e]; exact ha
      · rw [List.mem_singleton.mp hz]; exact hb
    exact ⟨_, tgt1, rfl, et_is (et_B (evd_isiT (evd_var rfl rx))) (by cases z <;> rfl), fun _ => evd_call (eva1 (evd_var rfl rx)) ⟨z, hz', rfl, rfl⟩⟩
  cases x with
  | num m => exact flat _ _ r0 (by simp [Dat.isT]) (by simp)
  | mark => exact flat _ _ r0 (by simp) (by simp)
  | tell t p => exact flat _ _ r0 (by simp [Dat.isT]) (by simp)
  | plus a b => exact two _ a b r0 (by simp only [Rk.depth] at dep; omega) (by simp only [Rk.depth] at dep; omega)
  | times a b => exact two _ a b r0 (by simp only [Rk.depth] at dep; omega) (by simp only [Rk.depth] at dep; omega)
/-! ### names that are drawn -/
def allTraits : List Str := ["count", "show", "fresh"]
theorem gt_in : ∀ {ts : List (Str × Bool × List Str)}, GoodT ts → ∀ t, t ∈ ts.map (·.1) → t ∈ allTraits := by
  intro ts h t m
  unfold allTraits
  cases h with
  | one f => simp at m; simp [m]
  | two f g b hb => simp at m; rcases m with m | m <;> simp [m]
  | three f g b c hb hc => simp at m; rcases m with m | m | m <;> simp [m]
theorem tn_in {W : Wd} (gw : GoodW W) {t : Str} (m : t ∈ tn W) : t ∈ allTraits := gt_in gw.tra t m
theorem strOk_t {t : Str} (m : t ∈ allTraits) : PyData.strOk t = true := by
  have q : allTraits.all PyData.strOk = true := by decide +kernel
  exact List.all_eq_true.mp q t m
def allNames : List Str := allCons.map (·.1)
theorem cn_in {W : Wd} (gw : GoodW W) {c : Str} (m : c ∈ cn W) : c ∈ allNames := by
  obtain ⟨x, hx, e⟩ := List.mem_map.mp m
  rw [← e]
  exact List.mem_map.mpr ⟨x, (row_f gw.row).all x hx, rfl⟩
theorem strOk_c {t : Str} (m : t ∈ allNames) : PyData.strOk t = true := by
  have q : allNames.all PyData.strOk = true := by decide +kernel
  exact List.all_eq_true.mp q t m
theorem strOk_f (b : Bool) : PyData.strOk (formS b) = true := by cases b <;> decide +kernel
abbrev headD (t : Str × Bool × List Str) : Dat := .tup [.str t.1, .str (formS t.2.1)]
theorem mem_tn {W : Wd} {x : Str × Bool × List Str} (h : x ∈ W.traits) : x.1 ∈ tn W := List.mem_map.mpr ⟨x, h, rfl⟩
theorem lay_heads {W : Wd} (gw : GoodW W) : ∀ ts : List (Str × Bool × List Str), (∀ t, t ∈ ts → t ∈ W.traits) → PyData.canLayAll0 (outAll (ts.map headD)) = true ∧ PyData.depthAll (outAll (ts.map headD)) ≤ 3
  | [], _ => by simp [outAll, PyData.canLayAll0, PyData.depthAll]
  | t :: ts, h => by
    obtain ⟨q1, q2⟩ := lay_heads gw ts fun x m => h x (List.mem_cons_of_mem _ m)
    have o := strOk_t (tn_in gw (mem_tn (h t List.mem_cons_self)))
    rw [List.map_cons, outAll, PyData.canLayAll0, q1, PyData.depthAll]
    constructor
    · simp [Dat.out, outAll, PyData.canLay0, PyData.canLayAll0, o, strOk_f]
    · simp [Dat.out, outAll, PyData.depth, PyData.depthAll]
      omega
theorem shaped_head {t : Str} {f : Bool} (o : PyData.strOk t = true) : SeqAt.shaped (Dat.tup [.str t, .str (formS f)]).out = true := by
  simp [SeqAt.shaped, Dat.out, outAll, PyData.canLay0, PyData.canLayAll0, o, strOk_f, PyData.depth, PyData.depthAll]
theorem shaped_heads {W : Wd} (gw : GoodW W) : SeqAt.shaped (Dat.lst (W.traits.map headD)).out = true := by
  obtain ⟨q1, q2⟩ := lay_heads gw W.traits fun _ h => h
  simp only [SeqAt.shaped, Dat.out, PyData.canLay0, q1, PyData.depth, Bool.true_and, decide_eq_true_eq]
  omega
/-- [row[:2] for row in world[1]] -/
theorem evf_heads {W : Wd} (gw : GoodW W) {i j : Nat} {v : V} (hv : σ[i]? = some (some v)) (hj : j < σ.length) (n : j ≠ i) (r : Rp K H v (worldD W)) :
    Evf K (tLc (iTup K (tOp (rIx K) (tVar i) (tC (.int 1)))) (gName j) tYes (tSl (rSlT K) (tVar j) tNoPart (tPart (tC (.int 2)))) [j]) σ H (.lst (W.traits.map headD)) :=
  evf_lcM traitD headD (src_tup (ix1 (evd_var hv r)) iT) (gw_few gw) (fun _ _ => rfl) fun t ht x H1 e1 rx =>
    ⟨_, tgt1, wipe1, evd_slT (evd_var (slot0 hj) rx) evo_none (evo_some evd_int) iT (by simp [HT.sIx]) (by simp [cutD, HT.sIx])⟩
theorem evd_head {W : Wd} (gw : GoodW W) {i j : Nat} {v : V} {ta : TE} {t : Str} {f : Bool} {b : List Str} (hv : σ[i]? = some (some v)) (hj : j < σ.length) (n : j ≠ i) (r : Rp K H v (worldD W)) (h : Evd K ta σ H (headD (t, f, b))) (m : (t, f, b) ∈ W.traits) :
    Evd K (tOp (rInD K) ta (tLc (iTup K (tOp (rIx K) (tVar i) (tC (.int 1)))) (gName j) tYes (tSl (rSlT K) (tVar j) tNoPart (tPart (tC (.int 2)))) [j])) σ H (.bl true) := by
  have o := strOk_t (tn_in gw (mem_tn m))
  refine evd_is (evd_inD h (evf_heads gw hv hj n r).dd (shaped_head o) (shaped_heads gw)) ?_
  congr 1
  rw [List.any_eq_true]
  refine ⟨headD (t, f, b), List.mem_map.mpr ⟨_, m, rfl⟩, SeqAt.eqv_refl _ ?_⟩
  simp [Dat.out, outAll, PyData.canLay0, PyData.canLayAll0, o, strOk_f]
theorem evd_headN {W : Wd} (gw : GoodW W) {i j : Nat} {v : V} {ta : TE} {t : Str} {f : Bool} {b : List Str} (hv : σ[i]? = some (some v)) (hj : j < σ.length) (n : j ≠ i) (r : Rp K H v (worldD W)) (h : Evd K ta σ H (headD (t, f, b))) (m : (t, f, b) ∈ W.traits) :
    Evd K (tOp (rNotInD K) ta (tLc (iTup K (tOp (rIx K) (tVar i) (tC (.int 1)))) (gName j) tYes (tSl (rSlT K) (tVar j) tNoPart (tPart (tC (.int 2)))) [j])) σ H (.bl false) := by
  have o := strOk_t (tn_in gw (mem_tn m))
  refine evd_is (evd_niD h (evf_heads gw hv hj n r).dd (shaped_head o) (shaped_heads gw)) ?_
  congr 1
  rw [Bool.not_eq_false', List.any_eq_true]
  refine ⟨headD (t, f, b), List.mem_map.mpr ⟨_, m, rfl⟩, SeqAt.eqv_refl _ ?_⟩
  simp [Dat.out, outAll, PyData.canLay0, PyData.canLayAll0, o, strOk_f]
theorem rd_is_reckoning (n : Nat) : Keeps (sp_is_reckoning K w (n + 1)) N_is_reckoning (t_is_reckoning K w n) := by
  rintro vs H Q E ⟨ds, r, ra, ⟨W, x, p, gw, dep, gd, rfl, rfl⟩, k⟩
  obtain ⟨v0, v1, v2, rfl, r0, r1, r2⟩ := args3 ra
  have two : ∀ (h : Str) (a b : Rk), ¬ h = "number" → ¬ h = "mark" → (h ∈ (["plus", "times"] : List Str)) → Rp K H v1 (.tup [.str h, a.d, b.d]) → a.depth ≤ n → b.depth ≤ n → GoodRk W p a → GoodRk W p b → t_is_reckoning K w n { nx := fun _ H' => Q .non H', rt := Q } (start N_is_reckoning [v0, v1, v2]) H := by
    intro h a b n1 n2 hm r1 ha hb ga gb
    refine q_pass (or_f (nt_T (evd_var rfl r1)) (or_f (et_is (et_T (evd_eqI (evd_len (evd_var rfl r1) sT) evd_int)) rfl) (nt_S (ix0 (evd_var rfl r1))))) fun H1 e1 => ?_
    refine q_pass (eqS_f (ix0 (evd_var rfl (r1.ex e1))) n1) fun H2 e2 => ?_
    refine q_pass (eqS_f (ix0 (evd_var rfl (r1.ex (e1.trans e2)))) n2) fun H3 e3 => ?_
    have r1' := r1.ex ((e1.trans e2).trans e3)
    have ex := (e1.trans e2).trans e3
    refine q_take (et_is (et_T (evd_inS (ss := ["plus", "times"]) (ix0 (evd_var rfl r1')) (evd_tup (eva_cons evd_str (eva_cons evd_str eva_nil))) sT)) (decide_eq_true hm)) fun H4 e4 => ?_
    refine d_ret (evf (and_t (eq_len (evd_var rfl (r1'.ex e4)) sT rfl) ?_)) (ex.trans e4) k
    refine evd_allT (xs := [a, b]) Rk.d (src_tup (sl1 (evd_var rfl (r1'.ex e4))) iT) (by simp) fun z hz x H5 e5 rx => ⟨_, tgt1, rfl, evd_call (eva3 (evd_var rfl (r0.ex ((ex.trans e4).trans e5))) (evd_var rfl rx) (evd_var rfl (r2.ex ((ex.trans e4).trans e5)))) ⟨W, z, p, gw, ?_, ?_, rfl, rfl⟩⟩
    · rcases List.mem_cons.mp hz with e | hz
      · rw [e]; exact ha
      · rw [List.mem_singleton.mp hz]; exact hb
    · rcases List.mem_cons.mp hz with e | hz
      · rw [e]; exact ga
      · rw [List.mem_singleton.mp hz]; exact gb
  cases x with
  | plus a b => exact two _ a b (by decide +kernel) (by decide +kernel) (by decide +kernel) r1 (by simp only [Rk.depth] at dep; omega) (by simp only [Rk.depth] at dep; omega) gd.1 gd.2
  | times a b => exact two _ a b (by decide +kernel) (by decide +kernel) (by decide +kernel) r1 (by simp only [Rk.depth] at dep; omega) (by simp only [Rk.depth] at dep; omega) gd.1 gd.2
  | num m =>
    have r1 : Rp K H v1 (.tup [.str "number", .int (m : Nat)]) := r1
    refine q_pass (or_f (nt_T (evd_var rfl r1)) (or_f (et_is (et_T (evd_eqI (evd_len (evd_var rfl r1) sT) evd_int)) rfl) (nt_S (ix0 (evd_var rfl r1))))) fun H1 e1 => ?_
    refine q_take (eqS_t (ix0 (evd_var rfl (r1.ex e1))) rfl) fun H2 e2 => ?_
    have r1' := r1.ex (e1.trans e2)
    refine d_ret (evf (and_t (eq_len (evd_var rfl r1') sT rfl) (evd_call (eva3 (ix1 (evd_var rfl r1')) evd_int evd_int) ⟨_, _, _, rfl, ?_⟩))) (e1.trans e2) k
    have gd : m ≤ 99 := gd
    show Dat.bl true = Dat.bl (decide ((0 : Int) ≤ (m : Int)) && decide ((m : Int) ≤ 99))
    rw [decide_eq_true (by omega : (0 : Int) ≤ (m : Int)), decide_eq_true (by omega : (m : Int) ≤ 99)]
    rfl
  | mark =>
    have r1 : Rp K H v1 (.tup [.str "mark"]) := r1
    refine q_pass (or_f (nt_T (evd_var rfl r1)) (or_f (et_is (et_T (evd_eqI (evd_len (evd_var rfl r1) sT) evd_int)) rfl) (nt_S (ix0 (evd_var rfl r1))))) fun H1 e1 => ?_
    refine q_pass (eqS_f (ix0 (evd_var rfl (r1.ex e1))) (by decide +kernel)) fun H2 e2 => ?_
    refine q_take (eqS_t (ix0 (evd_var rfl (r1.ex (e1.trans e2)))) rfl) fun H3 e3 => ?_
    exact d_ret (evf (eq_len (evd_var rfl (r1.ex ((e1.trans e2).trans e3))) sT rfl)) ((e1.trans e2).trans e3) k
  | tell t q =>
    obtain ⟨hq, b, hb⟩ := gd
    have r1 : Rp K H v1 (.tup [.str "tell", .str t, .int (q : Nat)]) := r1
    refine q_pass (or_f (nt_T (evd_var rfl r1)) (or_f (et_is (et_T (evd_eqI (evd_len (evd_var rfl r1) sT) evd_int)) rfl) (nt_S (ix0 (evd_var rfl r1))))) fun H1 e1 => ?_
    refine q_pass (eqS_f (ix0 (evd_var rfl (r1.ex e1))) (by decide +kernel)) fun H2 e2 => ?_
    refine q_pass (eqS_f (ix0 (evd_var rfl (r1.ex (e1.trans e2)))) (by decide +kernel)) fun H3 e3 => ?_
    have ex := (e1.trans e2).trans e3
    have r1' := r1.ex ex
    refine q_pass (et_is (et_T (evd_inS (ss := ["plus", "times"]) (ix0 (evd_var rfl r1')) (evd_tup (eva_cons evd_str (eva_cons evd_str eva_nil))) sT)) (by decide +kernel)) fun H4 e4 => ?_
    have r1' := r1'.ex e4
    refine q_pass (or_f (neS_f (ix0 (evd_var rfl r1')) rfl) (or_f (ne_len (evd_var rfl r1') sT rfl) (no_B (evd_call (eva3 (ix2 (evd_var rfl r1')) evd_int (evd_sub (evd_var rfl (r2.ex (ex.trans e4))) evd_int)) ⟨_, _, _, rfl, ?_⟩)))) fun H5 e5 => ?_
    · show Dat.bl true = Dat.bl (decide ((0 : Int) ≤ (q : Int)) && decide ((q : Int) ≤ p - 1))
      rw [decide_eq_true (by omega : (0 : Int) ≤ (q : Int)), decide_eq_true (by omega : (q : Int) ≤ p - 1)]
      rfl
    have r1' := r1'.ex e5
    exact d_ret (evf (and_t (evd_is (evd_isiS (ix1 (evd_var rfl r1'))) rfl) (evd_head gw (i := 0) (j := 4) rfl (by show 4 < 5; decide) (by decide) (r0.ex ((ex.trans e4).trans e5)) (evd_tup (eva2 (ix1 (evd_var rfl r1')) evd_str) (by simp)) hb))) ((ex.trans e4).trans e5) k
theorem rd_is_short : Keeps (sp_is_short K w) N_is_short (t_is_short K w) := by
  rintro vs H Q E ⟨ds, r, ra, ⟨W, x, p, gw, sh, rfl, rfl⟩, k⟩
  obtain ⟨v0, v1, v2, rfl, r0, r1, r2⟩ := args3 ra
  have := sh.flat
  have few := sh.few
  refine d_ret (evf (and_t (evd_call (eva3 (evd_var rfl r0) (evd_var rfl r1) (evd_var rfl r2)) ⟨W, x, p, gw, by omega, sh.good, rfl, rfl⟩) (evd_is (evd_le (evd_call (eva1 (evd_var rfl r1)) ⟨x, by omega, rfl, rfl⟩) evd_int) ?_))) (Ex.refl H) k
  rw [decide_eq_true (by omega : ((x.count : Nat) : Int) ≤ 15)]
end
end Lib

namespace Lib
open PySem L2 PySem.Spec PyProof.Rows Evl
section
variable {K : PySem.W.Frag} {w : World} {H H0 : Hp} {σ : L2.St} {te : TE} {a0 a1 a2 : Dat} {ds : List Dat} {D : Ends} {tz : TS}
theorem still_rk : ∀ r : Rk, r.d.still = true
  | .num _ => rfl
  | .mark => rfl
  | .tell _ _ => rfl
  | .plus a b => by simp [Rk.d, Dat.still, stillAll, still_rk a, still_rk b]
  | .times a b => by simp [Rk.d, Dat.still, stillAll, still_rk a, still_rk b]
theorem still_map {α : Type} {f : α → Dat} (h : ∀ a, (f a).still = true) (xs : List α) : stillAll (xs.map f) = true := still_all fun d m => by
  obtain ⟨s, _, e⟩ := List.mem_map.mp m
  rw [← e]
  exact h s
theorem still_made (x : Str × Rk) : (madeD x).still = true := by simp [Dat.still, stillAll, still_rk]
theorem sl_2 (h : Evd K te σ H (.tup (a0 :: a1 :: a2 :: ds))) : Evd K (tSl (rSlT K) te tNoPart (tPart (tC (.int 2)))) σ H (.tup [a0, a1]) := evd_slT h evo_none (evo_some evd_int) iT (by
    rintro ⟨_, z⟩
    simp [HT.sIx] at z) (by simp [cutD, HT.sIx])
theorem pos_row {W : Wd} (gw : GoodW W) {c : Str} {k : Nat} (h : (c, k) ∈ W.cons) : valV (mergeK [] (tabK W.cons)) (.inr c) = some (.int (k : Nat)) := (row_f gw.row).tab _ h
theorem rk_T (r : Rk) : r.d.isT = true := by cases r <;> rfl
theorem rd_is_body : Keeps (sp_is_body K w) N_is_body (t_is_body K w) := by
  rintro vs H Q E ⟨ds, r, ra, ⟨W, t, c, n, b, gw, ht, hc, gb, rfl, rfl⟩, k⟩
  obtain ⟨v0, v1, v2, v3, rfl, r0, r1, r2, r3⟩ := args4 ra
  refine q_set (evd_dget (evk_dict (ix0 (evd_var rfl r0))) (evd_var rfl r2) (pos_row gw hc)) fun v4 H1 e1 r4 => ?_
  cases gb with
  | reck x hm sh =>
    obtain ⟨bs, hm⟩ := hm
    refine q_take (eqS_t (evd_call (eva2 (evd_var rfl (r0.ex e1)) (evd_var rfl (r1.ex e1))) ⟨W, t, false, bs, gw, hm, rfl, rfl⟩) rfl) fun H2 e2 => ?_
    exact d_ret (evf (evd_call (eva3 (evd_var rfl (r0.ex (e1.trans e2))) (evd_var rfl (r3.ex (e1.trans e2))) (evd_var rfl (r4.ex e2))) ⟨W, x, _, gw, sh, rfl, rfl⟩)) (e1.trans e2) k
  | made x ps hm sh len al =>
    obtain ⟨bs, hm⟩ := hm
    refine q_pass (eqS_f (evd_call (eva2 (evd_var rfl (r0.ex e1)) (evd_var rfl (r1.ex e1))) ⟨W, t, true, bs, gw, hm, rfl, rfl⟩) (by decide +kernel)) fun H2 e2 => ?_
    have ex := e1.trans e2
    have r3 : Rp K H v3 (.tup (.str "made" :: x.d :: ps.map madeD)) := r3
    refine q_pass (or_f (nt_T (evd_var rfl (r3.ex ex))) (or_f (et_is (et_T (evd_neI (evd_len (evd_var rfl (r3.ex ex)) sT) (evd_add evd_int (evd_var rfl (r4.ex e2))))) ?_) (neS_f (ix0 (evd_var rfl (r3.ex ex))) rfl))) fun H3 e3 => ?_
    · rw [decide_eq_true]
      · rfl
      · rw [List.length_cons, List.length_cons, List.length_map, len]
        omega
    have ex := ex.trans e3
    refine q_pass (no_B (evd_call (eva3 (evd_var rfl (r0.ex ex)) (ix1 (evd_var rfl (r3.ex ex))) (evd_neg evd_int)) ⟨W, x, _, gw, sh, rfl, rfl⟩)) fun H4 e4 => ?_
    have ex := ex.trans e4
    refine q_forTD (sl2 (evd_var rfl (r3.ex ex))) iT (still_map still_made ps) (fun i σ' H' => ∃ x5 : Option V, σ' = [some v0, some v1, some v2, some v3, some v4, x5, none] ∧ Ex H H') (fun H5 e5 => ⟨none, rfl, ex.trans e5⟩) ?_ ?_
    · rintro i di y σ' H' hi ⟨x5, rfl, ex⟩ rx
      obtain ⟨z, hz, rfl⟩ := get_map hi
      obtain ⟨⟨bz, mz⟩, shz⟩ := al z (List.mem_of_getElem? hz)
      refine q_pass (or_f (nt_T (evd_var rfl rx)) (or_f (ne_len (evd_var rfl rx) sT rfl) (no_B (evd_call (eva3 (evd_var rfl (r0.ex ex)) (ix1 (evd_var rfl rx)) (evd_neg evd_int)) ⟨W, z.2, _, gw, shz, rfl, rfl⟩)))) fun H5 e5 => ?_
      refine d_pass (or_f (nt_S (ix0 (evd_var rfl (rx.ex e5)))) (et_T (evd_headN gw (i := 0) (j := 6) rfl (by show 6 < 7; decide) (by decide) (r0.ex (ex.trans e5)) (evd_tup (eva2 (ix0 (evd_var rfl (rx.ex e5))) evd_str) (by simp)) mz))) fun H6 e6 => ?_
      exact ⟨Ton.of (e5.trans e6), _, rfl, (ex.trans e5).trans e6⟩
    · rintro σ' H' ⟨x5, rfl, ex⟩
      exact d_ret (evf evd_bl) ex k
theorem step_ask {x y : Str × Nat} (h : askLt x y = true) : Step (askD x) (askD y) := by
  unfold askLt at h
  refine ⟨?_, ?_, ?_, h⟩
  · simp [Dat.out, outAll, PySem.W.alike, PySem.W.alikeAll]
  · simp [Dat.out]
  · simp [Dat.out, outAll, PyData.depth, PyData.depthAll]
theorem up_map {α : Type} {f : α → Dat} {lt : α → α → Bool} (st : ∀ a b, lt a b = true → Step (f a) (f b)) {ss : List α} (h : ss.Pairwise fun a b => lt a b = true) : ∀ (k : Nat) a b, (ss.map f)[k]? = some a → (ss.map f)[k + 1]? = some b → Step a b := by
  intro k a b ha hb
  obtain ⟨x, e1, rfl⟩ := get_map ha
  obtain ⟨y, e2, rfl⟩ := get_map hb
  obtain ⟨h1, x1⟩ := List.getElem?_eq_some_iff.mp e1
  obtain ⟨h2, x2⟩ := List.getElem?_eq_some_iff.mp e2
  have q := List.pairwise_iff_getElem.mp h k (k + 1) h1 h2 (Nat.lt_succ_self k)
  rw [x1, x2] at q
  exact st _ _ q
theorem rd_are_asks : Keeps (sp_are_asks K w) N_are_asks (t_are_asks K w) := by
  rintro vs H Q E ⟨ds, r, ra, ⟨W, as, n, gw, few, al, up, rfl, rfl⟩, k⟩
  obtain ⟨v0, v1, v2, rfl, r0, r1, r2⟩ := args3 ra
  refine q_pass (or_f (nt_T (evd_var rfl r1)) (et_is (et_T (evd_gt (evd_len (evd_var rfl r1) sT) evd_int)) ?_)) fun H1 e1 => ?_
  · rw [List.length_map]
    exact decide_eq_false (by omega)
  refine q_forTD (evd_var rfl (r1.ex e1)) iT (still_map (fun _ => rfl) as) (fun i σ' H' => ∃ x3 : Option V, σ' = [some v0, some v1, some v2, x3, none] ∧ Ex H H') (fun H5 e5 => ⟨none, rfl, e1.trans e5⟩) ?_ ?_
  · rintro i di y σ' H' hi ⟨x3, rfl, ex⟩ rx
    obtain ⟨z, hz, rfl⟩ := get_map hi
    obtain ⟨mz, lz⟩ := al z (List.mem_of_getElem? hz)
    refine q_pass (or_f (nt_T (evd_var rfl rx)) (or_f (ne_len (evd_var rfl rx) sT rfl) (no_B (evd_call (eva3 (ix1 (evd_var rfl rx)) evd_int (evd_sub (evd_var rfl (r2.ex ex)) evd_int)) ⟨_, _, _, rfl, ?_⟩)))) fun H5 e5 => ?_
    · show Dat.bl true = Dat.bl (decide ((0 : Int) ≤ (z.2 : Int)) && decide ((z.2 : Int) ≤ (n : Int) - 1))
      rw [decide_eq_true (by omega : (0 : Int) ≤ (z.2 : Int)), decide_eq_true (by omega : (z.2 : Int) ≤ (n : Int) - 1)]
      rfl
    refine d_pass (or_f (nt_S (ix0 (evd_var rfl (rx.ex e5)))) (et_is (et_T (evd_niS (ss := tn W) (ix0 (evd_var rfl (rx.ex e5))) (evd_call (eva1 (evd_var rfl (r0.ex (ex.trans e5)))) ⟨W, gw, rfl, rfl⟩) sL)) (by rw [decide_eq_true mz]; rfl))) fun H6 e6 => ?_
    exact ⟨Ton.of (e5.trans e6), _, rfl, (ex.trans e5).trans e6⟩
  · rintro σ' H' ⟨x3, rfl, ex⟩
    exact d_ret (evf (evd_rising (i := 1) (j := 4) rfl (by show 4 < 5; decide) (by decide) (r1.ex ex) iT (by rw [List.length_map]; omega) (up_map (f := askD) (lt := askLt) (fun a b h => step_ask h) up))) ex k
theorem q_setK {kvs : List (Key × V)} {i : Nat} (h : EvK te σ H kvs) (k : ∀ p H1, Ex H H1 → H1 p = some (.dK kvs) → tz D (σ.set i (some (.ref p))) H1) : tSeq (tAsg te (gName i)) tz D σ H := h H (Ex.refl H) _ fun p H1 e1 hp => k p H1 e1 hp
theorem rd_is_known_instance : Keeps (sp_is_known_instance K w) N_is_known_instance (t_is_known_instance K w) := by
  rintro vs H Q E ⟨ds, r, ra, ⟨W, gw, ⟨I, gi, rfl, rfl⟩ | ⟨rfl, rfl⟩⟩, k⟩
  case inr =>
    obtain ⟨v0, v1, rfl, r0, r1⟩ := args2 ra
    exact q_take (or_1 (ya_T (evd_var rfl r1))) fun H1 e1 => d_ret (evf evd_bl) e1 k
  obtain ⟨v0, v1, rfl, r0, r1⟩ := args2 ra
  have lim : I.limits.length ≤ 1000 := by
    have q := (row_f gw.row).all _ gi.c
    have q2 : allCons.all (fun c => decide (c.2 ≤ 2)) = true := by decide +kernel
    have q3 := of_decide_eq_true (List.all_eq_true.mp q2 _ q)
    have q3 : I.limits.length ≤ 2 := q3
    omega
  refine q_pass (or_f (nt_T (evd_var rfl r1)) (or_f (ne_len (evd_var rfl r1) sT rfl) (no_B (evd_allT (xs := [I.trait, I.root]) Dat.str (src_tup (sl_2 (evd_var rfl r1)) iT) (by simp) fun z hz x H1 e1 rx => ⟨_, tgt1, rfl, evd_isiS (evd_var rfl rx)⟩)))) fun H1 e1 => ?_
  refine q_unp (evd_var rfl (r1.ex e1)) fun v H2 e2 r2 => ?_
  obtain ⟨v3, v4, v5, v6, v7, r3, r4, r5, r6, r7, tg⟩ := tgt5 r2 iT
  refine ⟨_, tg _, ?_⟩
  have ex := e1.trans e2
  refine q_setK (evk_dict (ix0 (evd_var rfl (r0.ex ex)))) fun p H3 e3 hp => ?_
  have ex := ex.trans e3
  have at' := pos_row gw gi.c
  refine q_pass (or_f (et_is (et_T (evd_niS (ss := tn W) (evd_var rfl (r3.ex e3)) (evd_call (eva1 (evd_var rfl (r0.ex ex))) ⟨W, gw, rfl, rfl⟩) sL)) (by rw [decide_eq_true gi.t]; rfl)) (or_f (et_is (et_B (evd_dni (evd_var rfl (r4.ex e3)) (evk_var rfl hp))) (by rw [at']; rfl)) (nt_T (evd_var rfl (r5.ex e3))))) fun H4 e4 => ?_
  have ex := ex.trans e4
  have y := e3.trans e4
  refine q_pass (et_is (et_T (evd_neI (evd_len (evd_var rfl (r5.ex y)) sT) (evd_dget (evk_var rfl (e4 _ _ hp)) (evd_var rfl (r4.ex y)) at'))) (by rw [List.length_map, decide_eq_true rfl]; rfl)) fun H5 e5 => ?_
  have ex := ex.trans e5
  have y := y.trans e5
  have hp5 := e5 _ _ (e4 _ _ hp)
  refine q_pass (no_B (evd_allT optD (src_tup (evd_var rfl (r5.ex y)) iT) lim fun z hz x H6 e6 rx => ⟨_, tgt1, rfl, ?_⟩)) fun H6 e6 => ?_
  · cases z with
    | none => exact evd_is (evd_or (b := true) (evd_isN (b := true) (evd_var rfl rx) rfl) fun z => nomatch z) rfl
    | some s =>
      obtain ⟨c, hc, es⟩ := List.mem_map.mp (gi.l s hz)
      refine evd_is (evd_or (evd_isN (b := false) (evd_var rfl rx) rfl) fun _ => and_t (evd_isiS (evd_var rfl rx)) (evd_din (evd_var rfl rx) (evk_var rfl (e6 _ _ hp5)))) ?_
      have q := (row_f gw.row).tab _ hc
      rw [es] at q
      rw [q]
      rfl
  have ex := ex.trans e6
  have y := y.trans e6
  refine d_ret (evf (and_t (evd_call (eva3 (evd_var rfl (r0.ex ex)) (evd_var rfl (r6.ex y)) (evd_dget (evk_var rfl (e6 _ _ hp5)) (evd_var rfl (r4.ex y)) at')) ⟨W, I.asks, _, gw, gi.few, gi.a, gi.up, rfl, rfl⟩)
    (evd_call (eva4 (evd_var rfl (r0.ex ex)) (evd_var rfl (r3.ex y)) (evd_var rfl (r4.ex y)) (evd_var rfl (r7.ex y))) ⟨W, I.trait, I.root, _, I.body, gw, gi.t, gi.c, gi.b, rfl, rfl⟩))) ex k
theorem rd_are_instances : Keeps (sp_are_instances K w) N_are_instances (t_are_instances K w) := by
  rintro vs H Q E ⟨ds, r, ra, ⟨W, gw, ⟨Is, gi, few, rfl, rfl⟩ | ⟨rfl, rfl⟩⟩, k⟩
  · obtain ⟨v0, v1, v2, rfl, r0, r1, r2⟩ := args3 ra
    refine d_ret (evf (and_t (evd_isiT (evd_var rfl r1)) (and_t (evd_is (evd_le (evd_len (evd_var rfl r1) sT) (evd_var rfl r2)) ?_) (evd_allT Ins.d (src_tup (evd_var rfl r1) iT) (by omega) fun z hz x H1 e1 rx => ⟨_, tgt1, rfl, evd_call (eva2 (evd_var rfl (r0.ex e1)) (evd_var rfl rx)) ⟨W, gw, .inl ⟨z, gi z hz, rfl, rfl⟩⟩⟩)))) (Ex.refl H) k
    rw [List.length_map, decide_eq_true (by omega : ((Is.length : Nat) : Int) ≤ 4)]
  · obtain ⟨v0, v1, v2, rfl, r0, r1, r2⟩ := args3 ra
    refine d_ret (evf (and_t (evd_isiT (evd_var rfl r1)) (and_t (evd_is (evd_le (evd_len (evd_var rfl r1) sT) (evd_var rfl r2)) rfl) ?_))) (Ex.refl H) k
    exact evd_is (evd_allM (xs := [Dat.non]) (fun z => z) (fun _ => false) (src_tup (evd_var rfl r1) iT) (by simp) fun z hz x H1 e1 rx => ⟨_, tgt1, rfl, evd_call (eva2 (evd_var rfl (r0.ex e1)) (evd_var rfl rx)) ⟨W, gw, .inr ⟨by rw [List.mem_singleton.mp hz], rfl⟩⟩⟩) rfl
end
end Lib

namespace Lib
open PySem L2 PySem.Spec PyProof.Rows Evl
section
variable {K : PySem.W.Frag} {w : World} {H H0 : Hp} {σ : L2.St} {te : TE} {d a0 a1 a2 : Dat} {ds : List Dat} {D : Ends} {tz : TS}
/-- the return of a list of the def's own -/
theorem d_retV {i : Nat} {p : Addr} (hv : σ[i]? = some (some (.ref p))) (r : Rp K H (.ref p) d) (f : H0 p = none) (x : Ex H0 H) (k : ∀ v H', Ex H0 H' → Rp K H' v d → Frs H0 v d → D.rt v H') : tRet (tVar i) D σ H :=
  ⟨_, hv, k _ H x r fun _ _ => ⟨p, rfl, f⟩⟩
theorem asks_len : ∀ r : Rk, r.asks.length ≤ r.count
  | .num _ => by simp [Rk.asks, Rk.count]
  | .mark => by simp [Rk.asks, Rk.count]
  | .tell _ _ => by simp [Rk.asks, Rk.count]
  | .plus a b => by
    have := asks_len a
    have := asks_len b
    simp only [Rk.asks, Rk.count, List.length_append]
    omega
  | .times a b => by
    have := asks_len a
    have := asks_len b
    simp only [Rk.asks, Rk.count, List.length_append]
    omega
/-- what stands in a reckoning after its first word: reckonings, and others -/
abbrev Sub := Sum Dat Rk
def Sub.dat : Sub → Dat
  | .inl d => d
  | .inr r => r.d
def Sub.asks : Sub → List (Str × Nat)
  | .inl _ => []
  | .inr r => r.asks
def Sub.ok (n : Nat) : Sub → Prop
  | .inl d => d.isT = false ∧ d.still = true
  | .inr r => r.depth ≤ n ∧ r.count ≤ 15
theorem sub_still {n : Nat} {xs : List Sub} (h : ∀ x, x ∈ xs → Sub.ok n x) : stillAll (xs.map Sub.dat) = true := still_all fun d m => by
  obtain ⟨s, hs, e⟩ := List.mem_map.mp m
  rw [← e]
  have q := h s hs
  cases s with
  | inl d => exact q.2
  | inr r => exact still_rk r
theorem sub_isT {n : Nat} {x : Sub} (h : Sub.ok n x) : (Sub.dat x).isT = (match x with | .inl _ => false | .inr _ => true) := by
  cases x with
  | inl d => exact h.1
  | inr r => exact rk_T r
theorem flat_take {α β : Type} (f : α → List β) {l : List α} {i : Nat} {x : α} (h : l[i]? = some x) : (l.take (i + 1)).flatMap f = (l.take i).flatMap f ++ f x := by
  rw [List.take_add_one, h, List.flatMap_append]
  simp
theorem flat_take_len {α β : Type} (f : α → List β) (l : List α) (i : Nat) : ((l.take i).flatMap f).length ≤ (l.flatMap f).length := by
  conv => rhs; rw [← List.take_append_drop i l, List.flatMap_append, List.length_append]
  omega
theorem rd_body_asks (n : Nat) : Keeps (sp_body_asks K w (n + 1)) N_body_asks (t_body_asks K w n) := by
  rintro vs H Q E ⟨ds, r, ra, hx, k⟩
  have subs : ∀ (v0 : V) (h : Str) (xs : List Sub), ¬ h = "tell" → ¬ h = "made" → Rp K H v0 (.tup (.str h :: xs.map Sub.dat)) → (∀ x, x ∈ xs → Sub.ok n x) → (xs.flatMap Sub.asks).length ≤ 100 → r = .lst ((xs.flatMap Sub.asks).map askD) →
      t_body_asks K w n { nx := fun _ H' => Q .non H', rt := Q } (start N_body_asks [v0]) H := by
    intro v0 h xs n1 n2 r0 ok len er
    subst er
    refine q_pass (eqS_f (ix0 (evd_var rfl r0)) n1) fun H1 e1 => ?_
    refine q_pass (eqS_f (ix0 (evd_var rfl (r0.ex e1))) n2) fun H2 e2 => ?_
    have ex := e1.trans e2
    refine q_setF (K := K) (evf_lst eva_nil) fun v3 H3 e3 r3 f3 => ?_
    obtain ⟨p, rfl, fp⟩ := f3 _ rfl
    obtain ⟨_, ys, ep, hp, rp⟩ := rp_L r3
    cases ep
    cases rp
    have fp0 : H p = none := fresh_back ex fp
    refine q_forTD (sl1 (evd_var rfl (r0.ex (ex.trans e3)))) iT (sub_still ok) (fun i σ' H' => ∃ x4 : Option V, σ' = [some v0, none, none, some (.ref p), x4] ∧ Ex H H' ∧ ∃ zs, H' p = some (.lst zs) ∧ RpAll K H' zs (((xs.take i).flatMap Sub.asks).map askD))
      (fun H4 e4 => ⟨none, rfl, (ex.trans e3).trans e4, [], e4 _ _ hp, .nil⟩) ?_ ?_
    · rintro i di y σ' H' hi ⟨x4, rfl, ex', zs, hz, rz⟩ rx
      obtain ⟨z, hz', rfl⟩ := get_map hi
      have okz := ok z (List.mem_of_getElem? hz')
      cases z with
      | inl d =>
        refine d_pass (et_is (et_B (evd_isiT (evd_var rfl rx))) okz.1) fun H5 e5 => ⟨Ton.of e5, _, rfl, ex'.trans e5, zs, e5 _ _ hz, ?_⟩
        rw [flat_take _ hz']
        simp only [Sub.asks, List.append_nil]
        exact rz.ex e5
      | inr rk =>
        refine d_take (et_is (et_B (evd_isiT (evd_var rfl rx))) (rk_T rk)) fun H5 e5 => ?_
        have l1 := rpAll_len rz
        rw [List.length_map] at l1
        have l2 := flat_take_len Sub.asks xs (i + 1)
        rw [flat_take _ hz', List.length_append] at l2
        simp only [Sub.asks] at l2
        refine d_ext (p := p) rfl (e5 _ _ hz) (evd_call (eva1 (evd_var rfl (rx.ex e5))) (.inl ⟨rk, okz.1, rfl, okz.2, rfl⟩)) (by rw [List.length_map]; omega) fun ys H6 e6 r6 => ?_
        have hz6 := (e5.trans e6) _ _ hz
        have tn : Ton H6 (upd H6 p (.lst (zs ++ ys))) := Ton.upd (Ton.refl H6) hz6
        refine ⟨(Ton.of (e5.trans e6)).trans tn, _, rfl, Ex.mut ((ex'.trans e5).trans e6) fp0, _, upd_same, ?_⟩
        rw [flat_take _ hz', List.map_append]
        exact rpAll_app ((rz.ex (e5.trans e6)).ton tn (still_map (fun _ => rfl) _)) (r6.ton tn (still_map (fun _ => rfl) _))
    · rintro σ' H' ⟨x4, rfl, ex', zs, hz, rz⟩
      rw [List.length_map, List.take_length] at rz
      exact d_retV rfl (.lst hz rz) fp0 ex' k
  have cnt : ∀ (x : Rk) (xs : List Sub), x.count ≤ 15 → xs.flatMap Sub.asks = x.asks → (xs.flatMap Sub.asks).length ≤ 100 := by
    intro x xs h e
    rw [e]
    have := asks_len x
    omega
  rcases hx with ⟨x, dep, rfl, few, rfl⟩ | ⟨x, ps, hn, few, rfl, rfl⟩
  · obtain ⟨v0, rfl, r0⟩ := args1 ra
    cases x with
    | tell t p =>
      have r0 : Rp K H v0 (.tup [.str "tell", .str t, .int (p : Nat)]) := r0
      refine q_take (eqS_t (ix0 (evd_var rfl r0)) rfl) fun H1 e1 => ?_
      exact d_ret (evf_lst (eva1 (evd_tup (eva2 (ix1 (evd_var rfl (r0.ex e1))) (ix2 (evd_var rfl (r0.ex e1)))) (by simp))) (by simp)) e1 k
    | num m => exact subs v0 "number" [.inl (.int (m : Nat))] (by decide +kernel) (by decide +kernel) r0 (by simp [Sub.ok, Dat.isT, Dat.still]) (by simp [Sub.asks]) rfl
    | mark => exact subs v0 "mark" [] (by decide +kernel) (by decide +kernel) r0 (by simp) (by simp) rfl
    | plus a b =>
      simp only [Rk.depth] at dep
      have few' := few
      simp only [Rk.count] at few
      refine subs v0 "plus" [.inr a, .inr b] (by decide +kernel) (by decide +kernel) r0 ?_ (cnt _ _ few' (by simp [Sub.asks, Rk.asks])) (by simp [Sub.asks, Rk.asks])
      intro z hz
      rcases List.mem_cons.mp hz with e | hz
      · subst e; exact ⟨by omega, by omega⟩
      · rw [List.mem_singleton.mp hz]; exact ⟨by omega, by omega⟩
    | times a b =>
      simp only [Rk.depth] at dep
      have few' := few
      simp only [Rk.count] at few
      refine subs v0 "times" [.inr a, .inr b] (by decide +kernel) (by decide +kernel) r0 ?_ (cnt _ _ few' (by simp [Sub.asks, Rk.asks])) (by simp [Sub.asks, Rk.asks])
      intro z hz
      rcases List.mem_cons.mp hz with e | hz
      · subst e; exact ⟨by omega, by omega⟩
      · rw [List.mem_singleton.mp hz]; exact ⟨by omega, by omega⟩
  · obtain ⟨v0, rfl, r0⟩ := args1 ra
    have r0 : Rp K H v0 (.tup (.str "made" :: x.d :: ps.map madeD)) := r0
    refine q_pass (eqS_f (ix0 (evd_var rfl r0)) (by decide +kernel)) fun H1 e1 => ?_
    refine q_take (eqS_t (ix0 (evd_var rfl (r0.ex e1))) rfl) fun H2 e2 => ?_
    have ex := e1.trans e2
    have src := src_enum (K := K) (σ := start N_body_asks [v0]) (H := H2) (tl := tSl (rSlT K) (tVar 0) (tPart (tC (.int 2))) tNoPart) (sl2 (evd_var rfl (r0.ex ex))) iT
    have e1 : enumD (ps.map madeD) = (ps.mapIdx Prod.mk).map fun z : Nat × (Str × Rk) => Dat.tup [.int (z.1 : Nat), madeD z.2] := by
      refine List.ext_getElem? fun i => ?_
      simp [enumD]
      cases ps[i]? <;> rfl
    rw [e1] at src
    refine d_ret (evf_is (evf_lcM _ (fun z : Nat × (Str × Rk) => askD (z.2.1, z.1)) src (by rw [List.length_mapIdx]; omega) (fun _ _ => rfl) fun z hz x H3 e3 rx => ?_) ?_) ex k
    · obtain ⟨a, b, ha, hb, tg⟩ := tgt2 rx iT
      exact ⟨_, tg _, rfl, evd_tup (eva2 (ix0 (evd_var rfl hb)) (evd_var rfl ha)) (by simp)⟩
    · congr 1
      refine List.ext_getElem? fun i => ?_
      simp [Body.asks]
      cases ps[i]? <;> rfl
theorem nats_ints (ns : List Nat) : ns.map natD = (ns.map fun n => ((n : Nat) : Int)).map Dat.int := by rw [List.map_map]; rfl
theorem step_nat {a b : Nat} (h : decide (a < b) = true) : Step (natD a) (natD b) := step_int (by have := of_decide_eq_true h; omega)
theorem rd_are_rising : Keeps (sp_are_rising K w) N_are_rising (t_are_rising K w) := by
  rintro vs H Q E ⟨ds, r, ra, ⟨ns, len, up, rfl, rfl⟩ | ⟨ss, zs, len, mem, up, rfl, rfl⟩, k⟩
  · obtain ⟨v0, v1, rfl, r0, r1⟩ := args2 ra
    refine q_pass (or_f (nt_T (evd_var rfl r0)) (no_B (evd_allT natD (src_tup (evd_var rfl r0) iT) (by omega) fun z hz x H1 e1 rx => ⟨_, tgt1, rfl, ?_⟩))) fun H1 e1 => ?_
    · have r1' := r1.ex e1
      rw [nats_ints] at r1'
      exact evd_is (evd_inI (evd_var rfl rx) (evd_var rfl r1') sT) (by rw [decide_eq_true (List.mem_map.mpr ⟨z, hz, rfl⟩)])
    exact d_ret (evf (evd_rising (i := 0) (j := 3) rfl (by show 3 < 4; decide) (by decide) (r0.ex e1) iT (by rw [List.length_map]; omega) (up_map (f := natD) (lt := fun a b => decide (a < b)) (fun a b h => step_nat h) (up.imp fun h => decide_eq_true h)))) e1 k
  · obtain ⟨v0, v1, rfl, r0, r1⟩ := args2 ra
    refine q_pass (or_f (nt_T (evd_var rfl r0)) (no_B (evd_allT Dat.str (src_tup (evd_var rfl r0) iT) (by omega) fun z hz x H1 e1 rx => ⟨_, tgt1, rfl, ?_⟩))) fun H1 e1 => ?_
    · exact evd_is (evd_inS (evd_var rfl rx) (evd_var rfl (r1.ex e1)) sL) (by rw [decide_eq_true (mem z hz)])
    exact d_ret (evf (evd_rising (i := 0) (j := 3) rfl (by show 3 < 4; decide) (by decide) (r0.ex e1) iT (by rw [List.length_map]; omega) (up_strs up))) e1 k
end
end Lib

namespace Lib
open PySem L2 PySem.Spec PyProof.Rows Evl
section
variable {K : PySem.W.Frag} {w : World} {H H0 : Hp} {σ : L2.St} {te : TE} {d a0 a1 a2 : Dat} {ds : List Dat} {D : Ends} {tz : TS}
theorem strLt_irr (a : Str) : strLt a a = false := decide_eq_false (List.lt_irrefl _)
theorem up_nodup {ss : List Str} (h : ss.Pairwise fun a b => strLt a b = true) : ss.Nodup := h.imp fun {a b} q e => by
  subst e
  rw [strLt_irr] at q
  cases q
theorem cn_len {W : Wd} (gw : GoodW W) : (cn W).length ≤ 4 := by
  rw [List.length_map]
  exact (row_f gw.row).few
theorem tn_len {W : Wd} (gw : GoodW W) : (tn W).length ≤ 3 := by
  rw [List.length_map]
  exact gt_len gw.tra
theorem up_len {ss zs : List Str} (h : ss.Pairwise fun a b => strLt a b = true) (m : ∀ s, s ∈ ss → s ∈ zs) : ss.length ≤ zs.length := List.Nodup.length_le_of_subset (up_nodup h) m
theorem imp_len {ns : List Nat} {p : Nat} (h : ns.Pairwise (· < ·)) (m : ∀ j, j ∈ ns → j < p) : ns.length ≤ p := by
  have nd : ns.Nodup := h.imp fun {a b} q e => by omega
  have q := List.Nodup.length_le_of_subset nd (l₂ := List.range p) fun j hj => List.mem_range.mpr (m j hj)
  rwa [List.length_range] at q
/-- [one[0] for one in world[0]] -/
theorem evf_cons {W : Wd} (gw : GoodW W) {i j : Nat} {v : V} (hv : σ[i]? = some (some v)) (hj : j < σ.length) (n : j ≠ i) (r : Rp K H v (worldD W)) :
    Evf K (tLc (iTup K (tOp (rIx K) (tVar i) (tC (.int 0)))) (gName j) tYes (tOp (rIx K) (tVar j) (tC (.int 0))) [j]) σ H (.lst ((cn W).map .str)) :=
  evf_is (evf_lcM consD (fun c => .str c.1) (src_tup (ix0 (evd_var hv r)) pT) (by have := (row_f gw.row).few; omega) (fun _ _ => rfl) fun t ht x H1 e1 rx =>
    ⟨_, tgt1, wipe1, ix0 (evd_var (slot0 hj) rx)⟩) (by rw [List.map_map]; rfl)
theorem rd_is_module : Keeps (sp_is_module K w) N_is_module (t_is_module K w) := by
  rintro vs H Q E ⟨ds, r, ra, ⟨W, d, p, b, gw, p10, mo, rfl, rfl⟩, k⟩
  obtain ⟨v0, v1, v2, rfl, r0, r1, r2⟩ := args3 ra
  cases mo with
  | notT d h => exact q_take (or_1 (ya_T (evd_var rfl r1) h)) fun H1 e1 => d_ret (evf evd_bl) e1 k
  | len ds h hl => exact q_take (or_2 (nt_T (evd_var rfl r1)) (ne_lenY (evd_var rfl r1) sT (by omega))) fun H1 e1 => d_ret (evf evd_bl) e1 k
  | impT d c t i h =>
    refine q_pass (or_f (nt_T (evd_var rfl r1)) (ne_len (evd_var rfl r1) sT rfl)) fun H1 e1 => ?_
    refine q_unp (evd_var rfl (r1.ex e1)) fun v H2 e2 ru => ?_
    obtain ⟨v3, v4, v5, v6, r3, r4, r5, r6, tg⟩ := tgt4 ru iT
    refine ⟨_, tg _, ?_⟩
    exact q_take (or_1 (ya_T (evd_var rfl r3) h)) fun H3 e3 => d_ret (evf evd_bl) ((e1.trans e2).trans e3) k
  | imp0 c t i h =>
    subst h
    refine q_pass (or_f (nt_T (evd_var rfl r1)) (ne_len (evd_var rfl r1) sT rfl)) fun H1 e1 => ?_
    refine q_unp (evd_var rfl (r1.ex e1)) fun v H2 e2 ru => ?_
    obtain ⟨v3, v4, v5, v6, r3, r4, r5, r6, tg⟩ := tgt4 ru iT
    refine ⟨_, tg _, ?_⟩
    refine q_take (or_2 (nt_T (evd_var rfl r3)) (ya_B (evd_is (evd_allM (xs := [Dat.int 0]) (fun z => z) (fun _ => false) (src_tup (evd_var rfl r3) iT) (by simp) fun z hz x H3 e3 rx => ⟨_, tgt1, rfl, ?_⟩) rfl))) fun H3 e3 => d_ret (evf evd_bl) ((e1.trans e2).trans e3) k
    rw [List.mem_singleton.mp hz] at rx
    exact evd_call (eva3 (evd_var rfl rx) evd_int (evd_sub (evd_var rfl (r2.ex ((e1.trans e2).trans e3))) evd_int)) ⟨_, _, _, rfl, rfl⟩
  | insN c t =>
    refine q_pass (or_f (nt_T (evd_var rfl r1)) (ne_len (evd_var rfl r1) sT rfl)) fun H1 e1 => ?_
    refine q_unp (evd_var rfl (r1.ex e1)) fun v H2 e2 ru => ?_
    obtain ⟨v3, v4, v5, v6, r3, r4, r5, r6, tg⟩ := tgt4 ru iT
    refine ⟨_, tg _, ?_⟩
    have ex := e1.trans e2
    refine q_pass (or_f (nt_T (evd_var rfl r3)) (no_B (evd_allT (xs := []) (fun z : Dat => z) (src_tup (evd_var rfl r3) iT) (by simp) fun z hz => by simp at hz))) fun H3 e3 => ?_
    have ex := ex.trans e3
    exact q_take (or_2 (no_B (evd_call (eva2 (evd_var rfl (r3.ex e3)) (evd_var rfl (r3.ex e3))) (.inl ⟨[], by simp, .nil, rfl, rfl⟩))) (ya_B (evd_call (eva3 (evd_var rfl (r0.ex ex)) (evd_var rfl (r6.ex e3)) evd_int) ⟨W, gw, .inr ⟨rfl, rfl⟩⟩))) fun H4 e4 => d_ret (evf evd_bl) (ex.trans e4) k
  | traN c t h hs hl =>
    refine q_pass (or_f (nt_T (evd_var rfl r1)) (ne_len (evd_var rfl r1) sT rfl)) fun H1 e1 => ?_
    refine q_unp (evd_var rfl (r1.ex e1)) fun v H2 e2 ru => ?_
    obtain ⟨v3, v4, v5, v6, r3, r4, r5, r6, tg⟩ := tgt4 ru iT
    refine ⟨_, tg _, ?_⟩
    have ex := e1.trans e2
    refine q_pass (or_f (nt_T (evd_var rfl r3)) (no_B (evd_allT (xs := []) (fun z : Dat => z) (src_tup (evd_var rfl r3) iT) (by simp) fun z hz => by simp at hz))) fun H3 e3 => ?_
    have ex := ex.trans e3
    refine q_pass (or_f (no_B (evd_call (eva2 (evd_var rfl (r3.ex e3)) (evd_var rfl (r3.ex e3))) (.inl ⟨[], by simp, .nil, rfl, rfl⟩))) (no_B (evd_call (eva3 (evd_var rfl (r0.ex ex)) (evd_var rfl (r6.ex e3)) evd_int) ⟨W, gw, .inl ⟨[], by simp, by simp, rfl, rfl⟩⟩))) fun H4 e4 => ?_
    have ex := ex.trans e4
    have y := e3.trans e4
    refine q_forTD (evd_tup (eva2 (evd_var rfl (r4.ex y)) (evd_var rfl (r5.ex y))) (by simp)) iT (by simp [stillAll, hs, Dat.still, still_strs]) (fun i σ' H' => i ≤ 1 ∧ ∃ x8 : Option V, σ' = [some v0, some v1, some v2, some v3, some v4, some v5, some v6, none, x8] ∧ Ex H H') (fun H5 e5 => ⟨by omega, none, rfl, ex.trans e5⟩) ?_ ?_
    · rintro i di z σ' H' hi ⟨hi1, x8, rfl, ex⟩ rx
      match i, hi1, hi with
      | 0, _, hi =>
        cases hi
        refine d_pass (or_f (nt_T (evd_var rfl rx)) (no_B (evd_allT Dat.str (src_tup (evd_var rfl rx) iT) (by omega) fun z hz x H5 e5 rx => ⟨_, tgt1, rfl, evd_isiS (evd_var rfl rx)⟩))) fun H5 e5 => ?_
        exact ⟨Ton.of e5, by omega, _, rfl, ex.trans e5⟩
      | 1, _, hi =>
        cases hi
        exact d_take (or_1 (ya_T (evd_var rfl rx) h)) fun H5 e5 => d_ret (evf evd_bl) (ex.trans e5) k
    · rintro σ' H' ⟨hi, _⟩
      exact absurd hi (by simp)
  | good m gm =>
    refine q_pass (or_f (nt_T (evd_var rfl r1)) (ne_len (evd_var rfl r1) sT rfl)) fun H1 e1 => ?_
    refine q_unp (evd_var rfl (r1.ex e1)) fun v H2 e2 ru => ?_
    obtain ⟨v3, v4, v5, v6, r3, r4, r5, r6, tg⟩ := tgt4 ru iT
    refine ⟨_, tg _, ?_⟩
    have ex := e1.trans e2
    have il := imp_len gm.impUp gm.imp
    refine q_pass (or_f (nt_T (evd_var rfl r3)) (no_B (evd_allT natD (src_tup (evd_var rfl r3) iT) (by omega) fun z hz x H3 e3 rx => ⟨_, tgt1, rfl, evd_call (eva3 (evd_var rfl rx) evd_int (evd_sub (evd_var rfl (r2.ex (ex.trans e3))) evd_int)) ⟨_, _, _, rfl, ?_⟩⟩))) fun H3 e3 => ?_
    · have := gm.imp z hz
      show Dat.bl true = Dat.bl (decide ((0 : Int) ≤ (z : Int)) && decide ((z : Int) ≤ (p : Int) - 1))
      rw [decide_eq_true (by omega : (0 : Int) ≤ (z : Int)), decide_eq_true (by omega : (z : Int) ≤ (p : Int) - 1)]
      rfl
    have ex := ex.trans e3
    refine q_pass (or_f (no_B (evd_call (eva2 (evd_var rfl (r3.ex e3)) (evd_var rfl (r3.ex e3))) (.inl ⟨m.imports, by omega, gm.impUp, rfl, rfl⟩))) (no_B (evd_call (eva3 (evd_var rfl (r0.ex ex)) (evd_var rfl (r6.ex e3)) evd_int) ⟨W, gw, .inl ⟨m.ins, gm.ins, gm.few, rfl, rfl⟩⟩))) fun H4 e4 => ?_
    have ex := ex.trans e4
    have y := e3.trans e4
    have lc := up_len gm.conUp gm.con
    have lt := up_len gm.traUp gm.tra
    have lc4 := cn_len gw
    have lt3 := tn_len gw
    refine q_forTD (evd_tup (eva2 (evd_var rfl (r4.ex y)) (evd_var rfl (r5.ex y))) (by simp)) iT (by simp [stillAll, Dat.still, still_strs]) (fun i σ' H' => ∃ x8 : Option V, σ' = [some v0, some v1, some v2, some v3, some v4, some v5, some v6, none, x8] ∧ Ex H4 H') (fun H5 e5 => ⟨none, rfl, e5⟩) ?_ ?_
    · rintro i di z σ' H' hi ⟨x8, rfl, ex5⟩ rx
      match i, hi with
      | 0, hi =>
        cases hi
        refine d_pass (or_f (nt_T (evd_var rfl rx)) (no_B (evd_allT Dat.str (src_tup (evd_var rfl rx) iT) (by omega) fun z hz x H5 e5 rx => ⟨_, tgt1, rfl, evd_isiS (evd_var rfl rx)⟩))) fun H5 e5 => ?_
        exact ⟨Ton.of e5, _, rfl, ex5.trans e5⟩
      | 1, hi =>
        cases hi
        refine d_pass (or_f (nt_T (evd_var rfl rx)) (no_B (evd_allT Dat.str (src_tup (evd_var rfl rx) iT) (by omega) fun z hz x H5 e5 rx => ⟨_, tgt1, rfl, evd_isiS (evd_var rfl rx)⟩))) fun H5 e5 => ?_
        exact ⟨Ton.of e5, _, rfl, ex5.trans e5⟩
      | i + 2, hi => simp at hi
    · rintro σ' H' ⟨x8, rfl, e5⟩
      have y := y.trans e5
      refine d_ret (evf (and_t (evd_call (eva2 (evd_var rfl (r4.ex y)) (evf_cons gw (i := 0) (j := 7) rfl (by show 7 < 9; decide) (by decide) (r0.ex (ex.trans e5))).dd) (.inr ⟨m.cons, cn W, by omega, gm.con, gm.conUp, rfl, rfl⟩))
        (evd_call (eva2 (evd_var rfl (r5.ex y)) (evd_call (eva1 (evd_var rfl (r0.ex (ex.trans e5)))) ⟨W, gw, rfl, rfl⟩)) (.inr ⟨m.traits, tn W, by omega, gm.tra, gm.traUp, rfl, rfl⟩)))) (ex.trans e5) k
end
end Lib

namespace Lib
open PySem L2 PySem.Spec PyProof.Rows Evl
/-! ### what modules see -/
section
variable {W : Wd} {L : List Mo} {a b c k : Nat}
theorem Sees.lt (gf : GoodF W L) (s : Sees L a b) : a < L.length → b < L.length := by
  induction s with
  | self a => exact id
  | step h m _ ih =>
    intro ha
    have := (gf.mods _ _ h).imp _ m
    exact ih (by omega)
theorem Sees.trans (s : Sees L a b) (t : Sees L b c) : Sees L a c := by
  induction s with
  | self a => exact t
  | step h m _ ih => exact .step h m (ih t)
theorem Sees.snoc {m : Mo} (s : Sees L a b) (h : L[b]? = some m) (i : c ∈ m.imports) : Sees L a c := s.trans (.step h i (.self c))
theorem mem_seen : b ∈ seen L a ↔ b < L.length ∧ Sees L a b := by
  unfold seen
  simp
theorem seen_up : (seen L a).Pairwise (· < ·) := List.pairwise_lt_range.filter _
theorem seen_nd : (seen L a).Nodup := seen_up.imp fun {x y} q e => by omega
theorem seen_lt (h : b ∈ seen L a) : b < L.length := (mem_seen.mp h).1
theorem seen_len : (seen L a).length ≤ L.length := by
  unfold seen
  have q := List.length_filter_le (fun b => @decide (Sees L a b) (Classical.propDecidable _)) (List.range L.length)
  rwa [List.length_range] at q
theorem closed_sees {ms : List Nat} (cl : ∀ m mo j, m ∈ ms → L[m]? = some mo → j ∈ mo.imports → j ∈ ms) (s : Sees L a b) : a ∈ ms → b ∈ ms := by
  induction s with
  | self a => exact id
  | step h m _ ih => exact fun ha => ih (cl _ _ _ ha h m)
theorem seen_of {ms : List Nat} (gf : GoodF W L) (hk : k < L.length) (s : ∀ m, m ∈ ms → Sees L k m) (hm : k ∈ ms) (cl : ∀ m mo j, m ∈ ms → L[m]? = some mo → j ∈ mo.imports → j ∈ ms) : ∀ m, m ∈ ms ↔ m ∈ seen L k := fun m => by
  rw [mem_seen]
  exact ⟨fun h => ⟨(s m h).lt gf hk, s m h⟩, fun h => closed_sees cl h.2 hm⟩
theorem perm_of {ms ns : List Nat} (h1 : ms.Nodup) (h2 : ns.Nodup) (h : ∀ m, m ∈ ms ↔ m ∈ ns) : ms.Perm ns := (List.perm_ext_iff_of_nodup h1 h2).mpr h
/-- only one list of numbers ascends -/
theorem ints_one {ys : List Int} {ns : List Nat} (p : ys.Perm (ns.map fun n => ((n : Nat) : Int))) (h1 : ys.Pairwise (· ≤ ·)) (h2 : ns.Pairwise (· < ·)) : ys = ns.map fun n => ((n : Nat) : Int) := by
  refine List.Perm.eq_of_pairwise (le := (· ≤ ·)) (fun x y _ _ h1 h2 => Int.le_antisymm h1 h2) h1 ?_ p
  rw [List.pairwise_map]
  exact h2.imp fun {x y} q => by omega
end
section
variable {K : PySem.W.Frag} {w : World} {H H0 : Hp} {σ : L2.St} {te tb : TE} {d a0 a1 a2 : Dat} {ds : List Dat} {D : Ends} {tz : TS}
theorem q_pop {i j : Nat} {p : Addr} {xs : List V} {x : V} (hi : σ[i]? = some (some (.ref p))) (hp : H p = some (.lst (xs ++ [x]))) (k : tz D (σ.set j (some x)) (upd H p (.lst xs))) : tSeq (tAsg (tBM0 K "list" rPop (tVar i)) (gName j)) tz D σ H := by
  refine ⟨_, hi, Or.inl ⟨rfl, xs ++ [x], SqL.of hp⟩, p, xs ++ [x], x, rfl, rfl, hp, ?_, ?_⟩
  · simp
  · rw [List.dropLast_concat]
    exact k
theorem q_dputN {i j : Nat} {p : Addr} {kvs : List (Key × V)} {n : Int} {v : V} (hi : σ[i]? = some (some (.ref p))) (hj : σ[j]? = some (some (.int n))) (hp : H p = some (.dK kvs)) (len : kvs.length ≤ 1000) (k : tz D σ (upd H p (.dK (putK kvs (.inl n) v)))) :
    tSeq (sDPut (tVar i) (tVar j) (tC v)) tz D σ H := by
  have z : (1000 : Nat) < sizeLine := by decide
  exact ⟨_, hi, _, hj, p, _, rfl, DPut.k (k := .inl n) hp (by omega), k⟩
theorem shaped_ints (ns : List Int) : SeqAt.shaped (Dat.lst (ns.map .int)).out = true := by
  have q : ∀ ns : List Int, PyData.canLayAll0 (outAll (ns.map .int)) = true ∧ PyData.depthAll (outAll (ns.map .int)) ≤ 3 := by
    intro ns
    induction ns with
    | nil => simp [outAll, PyData.canLayAll0, PyData.depthAll]
    | cons n ns ih =>
      obtain ⟨q1, q2⟩ := ih
      rw [List.map_cons, outAll, PyData.canLayAll0, q1, PyData.depthAll, Dat.out]
      exact ⟨by simp [PyData.canLay0], by simp [PyData.depth]; omega⟩
  obtain ⟨q1, q2⟩ := q ns
  simp only [SeqAt.shaped, Dat.out, PyData.canLay0, q1, PyData.depth, Bool.true_and, decide_eq_true_eq]
  omega
theorem shaped_nil : SeqAt.shaped (Dat.lst []).out = true := shaped_ints []
theorem eqv_nil {ds : List Dat} : PyData.eqv (Dat.lst ds).out (Dat.lst []).out = ds.isEmpty := by
  cases ds with
  | nil => simp [Dat.out, outAll, PyData.eqv, PyData.eqvAll]
  | cons d ds => simp [Dat.out, outAll, PyData.eqv, PyData.eqvAll]
/-- xs != [] -/
theorem evd_neNil {ta : TE} {ds : List Dat} (h : Evd K ta σ H (.lst ds)) (s : SeqAt.shaped (Dat.lst ds).out = true) : Evd K (tOp (rNeX K) ta (tLst tNil)) σ H (.bl (!ds.isEmpty)) :=
  evd_is (evd_ne h (evf_lst eva_nil).dd s shaped_nil) (by rw [eqv_nil])
theorem still_body : ∀ b : Body, b.d.still = true
  | .reck r => still_rk r
  | .made r ps => by
    simp only [Body.d, Dat.still, stillAll, still_rk, Bool.true_and]
    exact still_map still_made ps
theorem still_opt : ∀ o : Option Str, (optD o).still = true
  | none => rfl
  | some _ => rfl
theorem still_ins (I : Ins) : I.d.still = true := by
  simp only [Dat.still, stillAll, still_body, still_map still_opt, Bool.true_and, Bool.and_true]
  exact still_map (fun _ => rfl) _
theorem still_nats (ns : List Nat) : stillAll (ns.map natD) = true := still_map (fun _ => rfl) _
theorem still_mo (m : Mo) : m.d.still = true := by
  simp only [Dat.still, stillAll, still_map still_ins, still_strs, Bool.true_and, Bool.and_true]
  exact still_nats _
theorem still_lib (L : List Mo) : (libD L).still = true := by
  rw [Dat.still]
  exact still_map still_mo L
/-- library[k] -/
theorem evd_at {L : List Mo} {m : Mo} {n : Nat} {ta : TE} (h : Evd K ta σ H (libD L)) (h2 : Evd K tb σ H (natD n)) (e : L[n]? = some m) : Evd K (tOp (rIx K) ta tb) σ H m.d := evd_ix n h h2 sT rfl (by rw [List.getElem?_map, e]; rfl)
def metK (ms : List Nat) : List (Key × V) := ms.map fun (m : Nat) => ((.inl (m : Int) : Key), V.bl true)
theorem val_met (ms : List Nat) (n : Nat) : (valV (metK ms) (.inl (n : Int))).isSome = decide (n ∈ ms) := by
  induction ms with
  | nil => simp [metK, valV_nil]
  | cons m ms ih =>
    by_cases e : m = n
    · subst e
      unfold metK
      rw [List.map_cons, valV_pos rfl]
      simp
    · have e' : ¬ n = m := fun z => e z.symm
      have q : ¬ ((.inl (m : Int) : Key) = .inl (n : Int)) := fun z => e (by have := Sum.inl.inj z; omega)
      show (valV ((.inl (m : Int), V.bl true) :: metK ms) (.inl (n : Int))).isSome = _
      rw [valV_neg q, ih]
      simp [e']
theorem put_met {ms : List Nat} {n : Nat} (h : ¬ n ∈ ms) : putK (metK ms) (.inl (n : Int)) (.bl true) = metK (ms ++ [n]) := by
  unfold putK
  rw [valV_any, val_met, decide_eq_false h]
  show metK ms ++ _ = _
  unfold metK
  rw [List.map_append]
  rfl
structure SeeI (L : List Mo) (k : Nat) (ms ws : List Nat) : Prop where
  ms_ : ∀ m, m ∈ ms → Sees L k m
  ws_ : ∀ m, m ∈ ws → Sees L k m
  nd : ms.Nodup
  hk : k ∈ ms ∨ k ∈ ws
  cl : ∀ m mo j, m ∈ ms → L[m]? = some mo → j ∈ mo.imports → j ∈ ms ∨ j ∈ ws
  len : ws.length ≤ 1 + 5 * ms.length
theorem rd_seen_from : Keeps (sp_seen_from K w) N_seen_from (t_seen_from K w) := by
  rintro vs H Q E ⟨ds, r, ra, ⟨W, L, k0, gf, hk, rfl, rfl⟩, k⟩
  obtain ⟨v0, v1, rfl, r0, r1⟩ := args2 ra
  refine fun p hp => ?_
  have e1 : Ex H (upd H p (.dK [])) := Ex.new hp
  refine evf_list (evd_var rfl (r1.ex e1)) sL _ (Ex.refl _) _ fun v3 H2 e2 r3 f3 => ?_
  obtain ⟨q, rfl, fq⟩ := f3 _ rfl
  obtain ⟨_, ys, eq, hq, rq⟩ := rp_L r3
  cases eq
  have fq0 : H q = none := fresh_back e1 fq
  have npq : p ≠ q := fun e => by subst e; rw [upd_same] at fq; cases fq
  refine ⟨_, _, rfl, ?_⟩
  have hL : L.length ≤ 5 := gf.few
  refine s_while (fun m σ' H' => ∃ (x4 : Option V) (ms ws : List Nat), m = (5 - ms.length) * 8 + ws.length ∧ σ' = [some v0, some v1, some (.ref p), some (.ref q), x4] ∧ H' p = some (.dK (metK ms)) ∧ H' q = some (.lst (ws.map fun n => V.int (n : Nat))) ∧
    Ton H H' ∧ Ex H H' ∧ SeeI L k0 ms ws) ((5 - 0) * 8 + 1) ?_ ?_
  · refine ⟨none, [], [k0], rfl, rfl, e2 _ _ upd_same, ?_, Ton.of (e1.trans e2), e1.trans e2, ?_, ?_, .nil, .inr (by simp), ?_, ?_⟩
    · cases rq with
      | cons h rq =>
        cases rq
        rw [rp_int h] at hq
        exact hq
    · intro m hm; simp at hm
    · intro m hm; rw [List.mem_singleton.mp hm]; exact .self k0
    · intro m mo j hm; simp at hm
    · simp
  rintro m σ' H' ⟨x4, ms, ws, rfl, rfl, hp', hq', tn, ex, si⟩
  have r0' := r0.ton tn (still_lib L)
  have rw' : Rp K H' (.ref q) (.lst (ws.map natD)) := .lst hq' (by
    have := ints_rpAll (K := K) (H := H') (ws.map fun n => ((n : Nat) : Int))
    rw [List.map_map, List.map_map] at this
    exact this)
  have lm : ms.length ≤ 5 := by
    have q := List.Nodup.length_le_of_subset si.nd (l₂ := List.range L.length) fun j hj => List.mem_range.mpr ((si.ms_ j hj).lt gf hk)
    rw [List.length_range] at q
    omega
  refine ⟨!(ws.map natD).isEmpty, et_T (evd_neNil (evd_var rfl rw') (by rw [nats_ints]; exact shaped_ints _)), fun hb H1 e1 => ?_, fun hb H1 e1 => ?_⟩
  · have hw : ws ≠ [] := fun z => by subst z; cases hb
    obtain ⟨ws', x, ew⟩ : ∃ ws' x, ws = ws' ++ [x] := ⟨ws.dropLast, ws.getLast hw, (List.dropLast_concat_getLast hw).symm⟩
    subst ew
    have hq1 := e1 _ _ hq'
    rw [List.map_append] at hq1
    have hp1 := e1 _ _ hp'
    have sx := si.ws_ x (by simp)
    have lx := sx.lt gf hk
    have gx : L[x]? = some L[x] := List.getElem?_eq_getElem lx
    refine ⟨_, fun σ2 H2 z => z, q_pop (p := q) rfl hq1 ?_⟩
    have tn1 : Ton H (upd H1 q (.lst (ws'.map fun n => V.int (n : Nat)))) := Ton.upd (tn.trans (Ton.of e1)) hq1
    have ex1 : Ex H (upd H1 q (.lst (ws'.map fun n => V.int (n : Nat)))) := Ex.mut (ex.trans e1) fq0
    have hp2 : upd H1 q (.lst (ws'.map fun n => V.int (n : Nat))) p = some (.dK (metK ms)) := by rw [upd_ne npq]; exact hp1
    have len := si.len
    rw [List.length_append] at len
    simp only [List.length_cons, List.length_nil] at len
    have vx : (valV (metK ms) (.inl (x : Int))).isSome = decide (x ∈ ms) := val_met ms x
    have tst : ∀ Ha, Ex (upd H1 q (.lst (ws'.map fun n => V.int (n : Nat)))) Ha → Ha p = some (.dK (metK ms)) := fun Ha e => e _ _ hp2
    refine d_when (b := !decide (x ∈ ms)) ?_ (fun hb H3 e3 => ?_) (fun hb H3 e3 => ?_)
    · refine et_B (K := K) fun Ha ea Q q => ⟨_, rfl, _, rfl, p, _, rfl, DGet.k (k := .inl (x : Int)) (tst Ha ea), ?_⟩
      rw [vx]
      exact q _ Ha (Ex.refl Ha) (.bl _)
    · have nx : ¬ x ∈ ms := fun z => by rw [decide_eq_true z] at hb; cases hb
      have nd' : (ms ++ [x]).Nodup := by
        rw [List.nodup_append]
        refine ⟨si.nd, by simp, fun a ha b hb => ?_⟩
        rw [List.mem_singleton.mp hb]
        intro e
        subst e
        exact nx ha
      have lm' : (ms ++ [x]).length ≤ 5 := by
        have q := List.Nodup.length_le_of_subset nd' (l₂ := List.range L.length) fun j hj => by
          rcases List.mem_append.mp hj with h | h
          · exact List.mem_range.mpr ((si.ms_ j h).lt gf hk)
          · rw [List.mem_singleton.mp h]
            exact List.mem_range.mpr lx
        rw [List.length_range] at q
        omega
      rw [List.length_append] at lm'
      simp only [List.length_cons, List.length_nil] at lm'
      refine q_dputN (p := p) (n := (x : Int)) rfl rfl (tst H3 e3) (by unfold metK; rw [List.length_map]; omega) ?_
      rw [put_met nx]
      have hq3 : H3 q = some (.lst (ws'.map fun n => V.int (n : Nat))) := e3 _ _ upd_same
      have tn4 : Ton H (upd H3 p (.dK (metK (ms ++ [x])))) := Ton.upd (tn1.trans (Ton.of e3)) (tst H3 e3)
      have ex4 : Ex H (upd H3 p (.dK (metK (ms ++ [x])))) := Ex.mut (ex1.trans e3) hp
      have hq4 : upd H3 p (.dK (metK (ms ++ [x]))) q = some (.lst (ws'.map fun n => V.int (n : Nat))) := by rw [upd_ne (Ne.symm npq)]; exact hq3
      have il := imp_len (gf.mods _ _ gx).impUp (gf.mods _ _ gx).imp
      refine d_extT (p := q) rfl hq4 (ix0 (evd_at (evd_var rfl (r0.ton tn4 (still_lib L))) (evd_var rfl (.int _)) gx)) iT (by rw [List.length_map, List.length_map]; omega) fun ys H5 e5 r5 => ?_
      have ey : ys = L[x].imports.map fun n => V.int (n : Nat) := by
        rw [nats_ints] at r5
        rw [rpAll_ints r5, List.map_map]
        rfl
      subst ey
      refine ⟨_, ?_, some (.int (x : Nat)), ms ++ [x], ws' ++ L[x].imports, rfl, rfl, ?_, ?_, Ton.upd (tn4.trans (Ton.of e5)) (e5 _ _ hq4), Ex.mut (ex4.trans e5) fq0, ?_⟩
      · simp only [List.length_append, List.length_cons, List.length_nil]
        omega
      · rw [upd_ne npq]
        exact e5 _ _ upd_same
      · rw [upd_same, List.map_append]
      · refine ⟨fun m hm => ?_, fun m hm => ?_, nd', ?_, fun m mo j hm hmo hj => ?_, ?_⟩
        · rcases List.mem_append.mp hm with h | h
          · exact si.ms_ m h
          · rw [List.mem_singleton.mp h]
            exact sx
        · rcases List.mem_append.mp hm with h | h
          · exact si.ws_ m (by simp [h])
          · exact sx.snoc gx h
        · rcases si.hk with h | h
          · exact .inl (by simp [h])
          · rcases List.mem_append.mp h with h | h
            · exact .inr (by simp [h])
            · exact .inl (by simp [List.mem_singleton.mp h])
        · rcases List.mem_append.mp hm with h | h
          · rcases si.cl m mo j h hmo hj with h | h
            · exact .inl (by simp [h])
            · rcases List.mem_append.mp h with h | h
              · exact .inr (by simp [h])
              · exact .inl (by simp [List.mem_singleton.mp h])
          · rw [List.mem_singleton.mp h, gx] at hmo
            cases hmo
            exact .inr (by simp [hj])
        · simp only [List.length_append, List.length_cons, List.length_nil]
          omega
    · have hx : x ∈ ms := by
        cases h : decide (x ∈ ms) with
        | true => exact of_decide_eq_true h
        | false => rw [h] at hb; cases hb
      refine ⟨_, ?_, some (.int (x : Nat)), ms, ws', rfl, rfl, tst H3 e3, e3 _ _ upd_same, tn1.trans (Ton.of e3), ex1.trans e3, si.ms_, fun m hm => si.ws_ m (by simp [hm]), si.nd, ?_, fun m mo j hm hmo hj => ?_, by omega⟩
      · simp only [List.length_append, List.length_cons, List.length_nil]
        omega
      · rcases si.hk with h | h
        · exact .inl h
        · rcases List.mem_append.mp h with h | h
          · exact .inr h
          · rw [List.mem_singleton.mp h]
            exact .inl hx
      · rcases si.cl m mo j hm hmo hj with h | h
        · exact .inl h
        · rcases List.mem_append.mp h with h | h
          · exact .inr h
          · rw [List.mem_singleton.mp h]
            exact .inl hx
  · have hw : ws = [] := by
      cases ws with
      | nil => rfl
      | cons _ _ => cases hb
    subst hw
    have hp1 := e1 _ _ hp'
    have mem := seen_of gf hk si.ms_ (si.hk.resolve_right (by simp)) fun m mo j hm hmo hj => (si.cl m mo j hm hmo hj).resolve_right (by simp)
    refine ⟨_, rfl, p, metK ms, ms.map fun n => ((n : Nat) : Int), rfl, .inl hp1, ?_, by rw [List.length_map]; omega, fun ys l pm up hl => ?_⟩
    · unfold metK
      rw [List.map_map, List.map_map]
      rfl
    · have e := ints_one (pm.trans ((perm_of si.nd seen_nd mem).map _)) up seen_up
      have fl : H l = none := fresh_back (ex.trans e1) hl
      refine k _ _ ((ex.trans e1).trans (Ex.new hl)) (.lst upd_same ?_) (frs_new fl)
      rw [e, nats_ints]
      exact ints_rpAll _
end
end Lib

namespace Lib
open PySem L2 PySem.Spec PyProof.Rows Evl
/-! ### texts in order -/
theorem leD_str (a b : Str) : leD (.str a) (.str b) = !strLt b a := by
  unfold leD
  rw [PySem.W.dataLe_eq]
  simp only [Dat.out, cond_false]
  rw [PySem.W.dataLt_str]
  rfl
theorem str_anti {a b : Str} (h1 : leD (.str a) (.str b) = true) (h2 : leD (.str b) (.str a) = true) : a = b := by
  rw [leD_str, Bool.not_eq_true'] at h1 h2
  have h1 := of_decide_eq_false h1
  have h2 := of_decide_eq_false h2
  have q : a.cps.toList = b.cps.toList := List.le_antisymm (List.not_lt.mp h1) (List.not_lt.mp h2)
  cases a with
  | mk x =>
    cases b with
    | mk y =>
      have q : x = y := Array.toList_inj.mp q
      rw [q]
/-- only one list of texts is in order -/
theorem strs_one {es : List Dat} {ss : List Str} (p : es.Perm (ss.map Dat.str)) (h1 : es.Pairwise fun a b => leD a b = true) (h2 : ss.Pairwise fun a b => strLt a b = true) : es = ss.map Dat.str := by
  refine List.Perm.eq_of_pairwise (le := fun a b => leD a b = true) (fun x y mx my h1 h2 => ?_) h1 ?_ p
  · obtain ⟨a, _, rfl⟩ := List.mem_map.mp (p.mem_iff.mp mx)
    obtain ⟨b, _, rfl⟩ := List.mem_map.mp my
    rw [str_anti h1 h2]
  · rw [List.pairwise_map]
    refine h2.imp fun {a b} q => ?_
    rw [leD_str, Bool.not_eq_true']
    refine decide_eq_false fun z => ?_
    have q := of_decide_eq_true q
    exact List.lt_irrefl _ (List.lt_trans z q)
theorem strs_two {es fs : List Dat} {ss zs : List Str} (p : es.Perm (ss.map Dat.str)) (q : fs.Perm (zs.map Dat.str)) (sz : ss.Perm zs) (h1 : es.Pairwise fun a b => leD a b = true) (h2 : fs.Pairwise fun a b => leD a b = true) : es = fs := by
  have p' : es.Perm fs := p.trans ((sz.map _).trans q.symm)
  refine List.Perm.eq_of_pairwise (le := fun a b => leD a b = true) (fun x y mx my h1 h2 => ?_) h1 h2 p'
  obtain ⟨a, _, rfl⟩ := List.mem_map.mp (p.mem_iff.mp mx)
  obtain ⟨b, _, rfl⟩ := List.mem_map.mp (q.mem_iff.mp my)
  rw [str_anti h1 h2]
theorem strs_of {es : List Dat} {ss : List Str} (p : es.Perm (ss.map Dat.str)) : ∃ zs : List Str, es = zs.map Dat.str ∧ zs.Perm ss := by
  obtain ⟨zs, e, q⟩ : ∃ zs : List Str, es = zs.map Dat.str ∧ True := by
    have h : ∀ e, e ∈ es → ∃ s, e = Dat.str s := fun e m => by
      obtain ⟨a, _, r⟩ := List.mem_map.mp (p.mem_iff.mp m)
      exact ⟨a, r.symm⟩
    clear p
    induction es with
    | nil => exact ⟨[], rfl, trivial⟩
    | cons e es ih =>
      obtain ⟨zs, r, _⟩ := ih fun x m => h x (List.mem_cons_of_mem _ m)
      obtain ⟨s, rs⟩ := h e List.mem_cons_self
      exact ⟨s :: zs, by rw [rs, r]; rfl, trivial⟩
  refine ⟨zs, e, ?_⟩
  rw [e] at p
  have g : ∀ l : List Str, (l.map Dat.str).map (fun d => match d with | .str s => s | _ => "") = l := fun l => by
    rw [List.map_map]
    conv => rhs; rw [← List.map_id l]
    rfl
  have q := p.map (fun d => match d with | .str s => s | _ => "")
  rw [g, g] at q
  exact q
theorem alike_strs (ss : List Str) : PySem.W.AllAlike ((ss.map Dat.str).map Dat.out) := by
  rw [List.map_map]
  exact PySem.W.AllAlike.of fun a b => by simp [Dat.out, PySem.W.alike]
theorem sortable_strs (ss : List Str) : PySem.W.Sortable ((ss.map Dat.str).map Dat.out) := by
  rw [List.map_map]
  exact PySem.W.Sortable.others fun a => by simp [Dat.out]
theorem dep_strs (ss : List Str) : ∀ d, d ∈ ss.map Dat.str → d.out.depth ≤ 10 := fun d m => by
  obtain ⟨a, _, rfl⟩ := List.mem_map.mp m
  simp [Dat.out, PyData.depth]
theorem shaped_strs {ss : List Str} (h : ∀ s, s ∈ ss → PyData.strOk s = true) : SeqAt.shaped (Dat.lst (ss.map .str)).out = true := by
  have q : ∀ ss : List Str, (∀ s, s ∈ ss → PyData.strOk s = true) → PyData.canLayAll0 (outAll (ss.map .str)) = true ∧ PyData.depthAll (outAll (ss.map .str)) ≤ 3 := by
    intro ns
    induction ns with
    | nil => simp [outAll, PyData.canLayAll0, PyData.depthAll]
    | cons n ns ih =>
      intro h
      obtain ⟨q1, q2⟩ := ih fun s m => h s (List.mem_cons_of_mem _ m)
      rw [List.map_cons, outAll, PyData.canLayAll0, q1, PyData.depthAll, Dat.out]
      exact ⟨by simp [PyData.canLay0, h n List.mem_cons_self], by simp [PyData.depth]; omega⟩
  obtain ⟨q1, q2⟩ := q ss h
  simp only [SeqAt.shaped, Dat.out, PyData.canLay0, q1, PyData.depth, Bool.true_and, decide_eq_true_eq]
  omega
theorem lay_of {d : PyData} (h : SeqAt.shaped d = true) : d.canLay0 = true := by
  unfold SeqAt.shaped at h
  rw [Bool.and_eq_true] at h
  exact h.1
theorem eqv_len : ∀ {xs ys : List PyData}, xs.length ≠ ys.length → PyData.eqvAll xs ys = false
  | [], [], h => absurd rfl h
  | [], _ :: _, _ => by simp [PyData.eqvAll]
  | _ :: _, [], _ => by simp [PyData.eqvAll]
  | x :: xs, y :: ys, h => by
    rw [PyData.eqvAll, eqv_len (xs := xs) (ys := ys) fun e => h (by rw [List.length_cons, List.length_cons, e]), Bool.and_false]
theorem out_len : ∀ ds : List Dat, (outAll ds).length = ds.length
  | [] => rfl
  | d :: ds => by rw [outAll, List.length_cons, out_len ds]; rfl
section
variable {K : PySem.W.Frag} {w : World} {H H0 : Hp} {σ : L2.St} {ta te tb : TE} {d a0 a1 a2 : Dat} {ds es : List Dat} {D : Ends} {tz : TS}
/-- xs != ys, the same -/
theorem neL_f (h1 : Evd K ta σ H (.lst ds)) (h2 : Evd K tb σ H (.lst ds)) (s : SeqAt.shaped (Dat.lst ds).out = true) : EvT (tTest (tOp (rNeX K) ta tb)) σ H false :=
  et_is (et_T (evd_ne h1 h2 s s)) (by rw [SeqAt.eqv_refl _ (lay_of s)]; rfl)
theorem neL_t (h1 : Evd K ta σ H (.lst ds)) (h2 : Evd K tb σ H (.lst es)) (s : SeqAt.shaped (Dat.lst ds).out = true) (s' : SeqAt.shaped (Dat.lst es).out = true) (n : ds.length ≠ es.length) : EvT (tTest (tOp (rNeX K) ta tb)) σ H true :=
  et_is (et_T (evd_ne h1 h2 s s')) (by
    simp only [Dat.out, PyData.eqv]
    rw [eqv_len (by rw [out_len, out_len]; exact n)]
    rfl)
/-- [b for a in .. for b in ..] -/
theorem evf_lc2 {α β : Type} {xs : List α} (enc : α → Dat) (sub : α → List β) (f : β → Dat) {wi : TI} {g : TG} {tl : TE} {vs : List Nat} {j : Nat} (s : Src K wi σ H (xs.map enc)) (len : (xs.flatMap sub).length ≤ 1000) (st : ∀ b, (f b).still = true)
    (body : ∀ a, a ∈ xs → ∀ x H1, Ex H H1 → Rp K H1 x (enc a) → ∃ σ2, Tgt g x (wipe σ vs) H1 σ2 ∧ wipe σ2 vs = wipe σ vs ∧ j < σ2.length ∧ Evd K tl σ2 H1 (.tup ((sub a).map f))) :
    Evf K (tLc2 wi g tYes (iTup K tl) (gName j) tYes (tVar j) vs [j]) σ H (.lst ((xs.flatMap sub).map f)) := fun H1 x Q q => s H1 x _ fun J H2 e2 w => fun D hD => by
  obtain ⟨Y, w, y⟩ := w
  have len' : (xs.map enc).length = xs.length := List.length_map _
  refine ⟨fun i m H' => m = xs.length - i ∧ i ≤ xs.length ∧ H2 D = none ∧ Ex H2 H' ∧ ∃ acc, H' D = some (.lst acc) ∧ RpAll K H' acc (((xs.take i).flatMap sub).map f), ⟨xs.length, by simp, Nat.zero_le _, hD, Ex.new hD, [], upd_same, .nil⟩, ?_⟩
  rintro i m Ha ⟨rfl, hi, hDn, ea, acc, hacc, racc⟩
  by_cases hlt : i < xs.length
  · refine .inr ⟨w.goes i Ha (by omega) ea, _, fun H' p' => ⟨xs.length - (i + 1), by omega, rfl, hlt, p'⟩, fun z Hb yy => ?_⟩
    obtain ⟨eab, d, hd, rd⟩ := y i Ha z Hb ea (w.yields i Ha z Hb (by omega) ea yy)
    rw [List.getElem?_map] at hd
    cases ha : xs[i]? with
    | none =>
      rw [ha] at hd
      cases hd
    | some a =>
    rw [ha] at hd
    cases hd
    have m : a ∈ xs := List.mem_of_getElem? ha
    obtain ⟨σ2, hg, hw, hj, he⟩ := body a m z Hb ((x.trans e2).trans (ea.trans eab)) rd
    have tk : (xs.take (i + 1)).flatMap sub = (xs.take i).flatMap sub ++ sub a := flat_take sub ha
    have tl' := flat_take_len sub xs (i + 1)
    rw [tk, List.length_append] at tl'
    refine hg _ ⟨hw, et_yes (σ := σ2) (H := Hb) Hb (Ex.refl Hb) _ fun Hc ec => ?_⟩
    refine L2.iteT ?_
    refine he Hc ec _ fun v Hd ed rv => ?_
    obtain ⟨A, zs, eA, hA, rA⟩ := rp_T rv iT
    have lz := rpAll_len rA
    rw [List.length_map] at lz
    have e4 : Ex H2 Hd := ((ea.trans eab).trans ec).trans ed
    refine ⟨A, eA, ⟨zs, hA⟩, ?_⟩
    refine ⟨fun jj kk H' => kk = zs.length - jj ∧ jj ≤ zs.length ∧ Ton Hd H' ∧ Ex H2 H' ∧ ∃ acc', H' D = some (.lst acc') ∧ RpAll K H' acc' (((xs.take i).flatMap sub ++ (sub a).take jj).map f),
      ⟨zs.length, by simp, Nat.zero_le _, Ton.refl _, e4, acc, ed _ _ (ec _ _ (eab _ _ hacc)), by simpa using racc.ex (eab.trans (ec.trans ed))⟩, ?_⟩
    rintro jj kk He ⟨rfl, hjj, tn, ee, acc', hacc', racc'⟩
    have qA := sqt_ton tn hA
    by_cases jlt : jj < zs.length
    · refine .inr ⟨⟨zs, zs[jj], qA, List.getElem?_eq_getElem jlt⟩, _, fun H' p' => ⟨zs.length - (jj + 1), by omega, rfl, jlt, p'⟩, fun yv Hf yy => ?_⟩
      obtain ⟨eb, yy⟩ := yy
      subst eb
      obtain ⟨db, h1, h2⟩ := rpAll_get rA (yy zs qA)
      obtain ⟨b, hb, rfl⟩ := get_map h1
      refine ⟨wipe1, et_yes (σ := (wipe σ2 [j]).set j (some yv)) (H := Hf) Hf (Ex.refl Hf) _ fun Hg eg => ?_⟩
      refine L2.iteT ?_
      have la := rpAll_len racc'
      rw [List.length_map, List.length_append, List.length_take] at la
      have big := big16
      have h2' := (h2.ton tn (st b)).ex eg
      refine ⟨_, slot0 hj, acc', eg _ _ hacc', by omega, (tn.trans (Ton.of eg)).upd (eg _ _ hacc'), Ex.mut (ee.trans eg) hDn, acc' ++ [yv], upd_same, ?_⟩
      rw [List.take_add_one, hb, ← List.append_assoc, List.map_append]
      refine (rpAll_app (racc'.ex eg) (.cons h2' .nil)).ton (Ton.upd (Ton.refl Hg) (eg _ _ hacc')) (still_all fun e' m' => ?_)
      rcases List.mem_append.mp m' with m' | m'
      · obtain ⟨a', ma, ea'⟩ := List.mem_map.mp m'
        rw [← ea']
        exact st a'
      · rw [List.mem_singleton.mp m']
        exact st b
    · have ej : jj = zs.length := by omega
      subst ej
      refine .inl ⟨⟨zs, qA, Nat.le_refl _⟩, hDn, ee, acc', hacc', ?_⟩
      rw [tk]
      rw [lz, List.take_length] at racc'
      exact racc'
  · have e : i = xs.length := by omega
    subst e
    rw [List.take_length] at racc
    rw [← len']
    exact .inl ⟨w.stops Ha ea, q _ Ha (e2.trans ea) (.lst hacc racc) (frs_new (fresh_back e2 hDn))⟩
theorem flat_len {α β : Type} (f : α → List β) (c : Nat) : ∀ (l : List α), (∀ a, a ∈ l → (f a).length ≤ c) → (l.flatMap f).length ≤ l.length * c
  | [], _ => by simp
  | a :: l, h => by
    have q := flat_len f c l fun x m => h x (List.mem_cons_of_mem _ m)
    have q2 := h a List.mem_cons_self
    rw [List.flatMap_cons, List.length_append, List.length_cons, Nat.succ_mul]
    omega
theorem mod_at {L : List Mo} {n : Nat} (h : n < L.length) : L[n]? = some (modAt L n) := by
  unfold modAt
  rw [List.getD_eq_getElem?_getD, List.getElem?_eq_getElem h]
  rfl
theorem good_at {W : Wd} {L : List Mo} (gf : GoodF W L) {n : Nat} (h : n < L.length) : GoodM W n (modAt L n) := gf.mods _ _ (mod_at h)
theorem gm_con {W : Wd} (gw : GoodW W) {p : Nat} {m : Mo} (g : GoodM W p m) : m.cons.length ≤ 4 := Nat.le_trans (up_len g.conUp g.con) (cn_len gw)
theorem gm_tra {W : Wd} (gw : GoodW W) {p : Nat} {m : Mo} (g : GoodM W p m) : m.traits.length ≤ 3 := Nat.le_trans (up_len g.traUp g.tra) (tn_len gw)
theorem lim_len {W : Wd} (gw : GoodW W) {I : Ins} (gi : GoodI W I) : I.limits.length ≤ 2 := by
  have q := (row_f gw.row).all _ gi.c
  have q2 : allCons.all (fun c => decide (c.2 ≤ 2)) = true := by decide +kernel
  exact of_decide_eq_true (List.all_eq_true.mp q2 _ q)
theorem made_len {W : Wd} {t : Str} {n : Nat} {r : Rk} {ps : List (Str × Rk)} (g : GoodB W t n (.made r ps)) : ps.length = n := by
  cases g with
  | made _ _ _ _ h _ => exact h
theorem body_len {W : Wd} {t : Str} {n : Nat} {b : Body} (g : GoodB W t n b) (hn : n ≤ 10) : b.asks.length ≤ 15 := by
  cases g with
  | reck r _ sh =>
    have := asks_len r
    have := sh.few
    show r.asks.length ≤ 15
    omega
  | made r ps _ _ h _ =>
    simp only [Body.asks, List.length_mapIdx]
    omega
theorem body_call {W : Wd} {t : Str} {n : Nat} {b : Body} (g : GoodB W t n b) (hn : n ≤ 10) :
    (∃ x : Rk, x.depth ≤ 9 ∧ [b.d] = [x.d] ∧ x.count ≤ 15 ∧ Dat.lst (b.asks.map askD) = .lst (x.asks.map askD)) ∨ (∃ (x : Rk) (ps : List (Str × Rk)), 1 ≤ 9 ∧ ps.length ≤ 10 ∧ [b.d] = [(Body.made x ps).d] ∧ Dat.lst (b.asks.map askD) = .lst ((Body.made x ps).asks.map askD)) := by
  cases g with
  | reck r _ sh =>
    have := sh.flat
    exact .inl ⟨r, by omega, rfl, sh.few, rfl⟩
  | made r ps _ _ h _ => exact .inr ⟨r, ps, by omega, by omega, rfl, rfl⟩
theorem lim_roots (l : List (Option Str)) : (l.filter Option.isSome).map optD = (l.filterMap id).map Dat.str := by
  induction l with
  | nil => rfl
  | cons o l ih =>
    cases o with
    | none => simpa using ih
    | some s => simpa using ih
end
end Lib

namespace Lib
open PySem L2 PySem.Spec PyProof.Rows Evl
section
variable {K : PySem.W.Frag} {w : World} {H H0 : Hp} {σ : L2.St} {ta te tb : TE} {d a0 a1 a2 : Dat} {ds es : List Dat} {D : Ends} {tz : TS}
/-- [f for one in seen for f in library[one][..]] -/
theorem evf_seenC {W : Wd} {L : List Mo} {k i j l m : Nat} {v u : V} (gw : GoodW W) (gf : GoodF W L) (hv : σ[i]? = some (some v)) (hu : σ[l]? = some (some u)) (r : Rp K H v (libD L)) (ru : Rp K H u (.lst ((seen L k).map natD)))
    (hj : j < σ.length) (hm : m < σ.length) (nj : j ≠ i) (nm : m ≠ i) (njl : j ≠ m) :
    Evf K (tLc2 (iList K (tVar l)) (gName j) tYes (iTup K (tOp (rIx K) (tOp (rIx K) (tVar i) (tVar j)) (tC (.int 1)))) (gName m) tYes (tVar m) [j, m] [m]) σ H (.lst ((consSeen L k).map .str)) := by
  have l5 := gf.few
  have sl := seen_len (L := L) (a := k)
  refine evf_lc2 natD (fun n => (modAt L n).cons) Dat.str (src_lst (evd_var hu ru)) ?_ (fun _ => rfl) fun n hn x H1 e1 rx => ?_
  · have q := flat_len (fun n => (modAt L n).cons) 4 (seen L k) fun n hn => gm_con gw (good_at gf (seen_lt hn))
    omega
  · have w1 : wipe σ [j, m] = (σ.set m none).set j none := rfl
    refine ⟨_, tgt1, ?_, ?_, ix1 (evd_at (evd_var (v := v) ?_ (r.ex e1)) (evd_var (v := x) ?_ rx) (mod_at (seen_lt hn)))⟩
    · rw [w1]
      show ((((σ.set m none).set j none).set j (some x)).set m none).set j none = _
      rw [List.set_set, List.set_comm _ _ njl, List.set_set, List.set_set]
    · rw [w1]
      simpa using hm
    · rw [w1, List.getElem?_set_ne nj, List.getElem?_set_ne nj, List.getElem?_set_ne nm]
      exact hv
    · rw [w1, List.getElem?_set_self (by simpa using hj)]
theorem evf_seenT {W : Wd} {L : List Mo} {k i j l m : Nat} {v u : V} (gw : GoodW W) (gf : GoodF W L) (hv : σ[i]? = some (some v)) (hu : σ[l]? = some (some u)) (r : Rp K H v (libD L)) (ru : Rp K H u (.lst ((seen L k).map natD)))
    (hj : j < σ.length) (hm : m < σ.length) (nj : j ≠ i) (nm : m ≠ i) (njl : j ≠ m) :
    Evf K (tLc2 (iList K (tVar l)) (gName j) tYes (iTup K (tOp (rIx K) (tOp (rIx K) (tVar i) (tVar j)) (tC (.int 2)))) (gName m) tYes (tVar m) [j, m] [m]) σ H (.lst ((traitsSeen L k).map .str)) := by
  have l5 := gf.few
  have sl := seen_len (L := L) (a := k)
  refine evf_lc2 natD (fun n => (modAt L n).traits) Dat.str (src_lst (evd_var hu ru)) ?_ (fun _ => rfl) fun n hn x H1 e1 rx => ?_
  · have q := flat_len (fun n => (modAt L n).traits) 3 (seen L k) fun n hn => gm_tra gw (good_at gf (seen_lt hn))
    omega
  · have w1 : wipe σ [j, m] = (σ.set m none).set j none := rfl
    refine ⟨_, tgt1, ?_, ?_, ix2 (evd_at (evd_var (v := v) ?_ (r.ex e1)) (evd_var (v := x) ?_ rx) (mod_at (seen_lt hn)))⟩
    · rw [w1]
      show ((((σ.set m none).set j none).set j (some x)).set m none).set j none = _
      rw [List.set_set, List.set_comm _ _ njl, List.set_set, List.set_set]
    · rw [w1]
      simpa using hm
    · rw [w1, List.getElem?_set_ne nj, List.getElem?_set_ne nj, List.getElem?_set_ne nm]
      exact hv
    · rw [w1, List.getElem?_set_self (by simpa using hj)]
/-- all([one in zs for one in ss]) -/
theorem evd_allIn {j : Nat} {ss zs : List Str} {wi : TI} (s : Src K wi σ H (ss.map .str)) (len : ss.length ≤ 1000) (hj : j < σ.length) (hz : ∀ x H1, Ex H H1 → Evd K tb ((wipe σ [j]).set j (some x)) H1 (.lst (zs.map .str))) :
    Evd K (tCB (rAll K) (tCons (tLc wi (gName j) tYes (tOp (rIn K false) (tVar j) tb) [j]) tNil)) σ H (.bl (ss.all fun s => decide (s ∈ zs))) :=
  evd_allM Dat.str (fun s => decide (s ∈ zs)) s len fun a _ x H1 e1 rx => ⟨_, tgt1, wipe1, evd_inS (evd_var (slot0 hj) rx) (hz x H1 e1) sL⟩
/-- is the trait known -/
noncomputable def tOk (L : List Mo) (a : Nat) (x : Str × Bool × List Str) : Bool := !decide (x.1 ∈ (modAt L a).traits) || x.2.2.all fun b => decide (b ∈ traitsSeen L a)
noncomputable def iOk (L : List Mo) (a : Nat) (I : Ins) : Bool := I.roots.all (fun s => decide (s ∈ consSeen L a)) && I.used.all (fun s => decide (s ∈ traitsSeen L a))
theorem knownT_eq (W : Wd) (L : List Mo) (a : Nat) : knownT W L a = W.traits.all (tOk L a) := rfl
theorem knownI_eq (L : List Mo) (a : Nat) : knownI L a = (modAt L a).ins.all (iOk L a) := rfl
theorem all_take {α : Type} {p : α → Bool} {l : List α} {i : Nat} {x : α} (h : l[i]? = some x) (q : (l.take i).all p = true) : (l.take (i + 1)).all p = p x := by
  rw [List.take_add_one, h, List.all_append, q]
  simp
theorem all_no {α : Type} {p : α → Bool} {l : List α} {x : α} (m : x ∈ l) (q : p x = false) : l.all p = false := by
  rw [List.all_eq_false]
  exact ⟨x, m, by rw [q]; decide⟩
theorem gt_below : ∀ {ts : List (Str × Bool × List Str)}, GoodT ts → ∀ t, t ∈ ts → t.2.2.length ≤ 10 := by
  intro ts g t m
  obtain ⟨i, hi, e⟩ := List.getElem_of_mem m
  exact (turn_t g (i := i) (by rw [List.getElem?_eq_getElem hi, e])).few
theorem roots_len {W : Wd} (gw : GoodW W) {I : Ins} (gi : GoodI W I) : I.roots.length ≤ 3 := by
  have q := lim_len gw gi
  have q2 := List.length_filterMap_le id I.limits
  simp only [Ins.roots, List.length_cons]
  omega
theorem used_len {W : Wd} (gw : GoodW W) {I : Ins} (gi : GoodI W I) : I.used.length ≤ 20 := by
  have q := lim_len gw gi
  have q2 := body_len gi.b (by omega)
  have q3 := gi.few
  simp only [Ins.used, List.length_cons, List.length_append, List.length_map]
  omega
/-- [root] + [limit for limit in limits if limit is not None] -/
theorem evf_roots {W : Wd} (gw : GoodW W) {I : Ins} (gi : GoodI W I) {i l j : Nat} {v u : V} (hv : σ[i]? = some (some v)) (hu : σ[l]? = some (some u)) (hj : j < σ.length) (rv : Rp K H v (.str I.root)) (ru : Rp K H u (.tup (I.limits.map optD))) :
    Evf K (tOp (rPlus K) (tLst (tCons (tVar i) tNil)) (tLc (iTup K (tVar l)) (gName j) (tTest (tOp rNotN (tVar j) (tC .non))) (tVar j) [j])) σ H (.lst (I.roots.map .str)) := by
  have ll := lim_len gw gi
  refine evf_is (evf_cat (evf_lst (eva1 (evd_var hv rv)) (by simp)).dd (evf_lcF optD optD Option.isSome (src_tup (evd_var hu ru) iT) (by omega) (fun o _ => still_opt o) fun o ho x H1 e1 rx =>
    ⟨_, tgt1, wipe1, et_T (evd_notN (evd_var (slot0 hj) rx) (by cases o <;> rfl)), fun _ => evd_var (slot0 hj) rx⟩).dd ?_) ?_
  · rw [List.length_map]
    have := List.length_filter_le Option.isSome I.limits
    simp
    omega
  · rw [lim_roots]
    rfl
theorem rd_is_known : Keeps (sp_is_known K w) N_is_known (t_is_known K w) := by
  rintro vs H Q E ⟨ds, r, ra, ⟨W, L, a, gw, gn, ha, rfl, rfl⟩, k⟩
  obtain ⟨v0, v1, v2, rfl, r0, r1, r2⟩ := args3 ra
  have gf := gn.toGoodF
  have l5 := gf.few
  have gm := good_at gf ha
  have ma := mod_at ha
  have sl := seen_len (L := L) (a := a)
  refine q_setF (evf_call (eva2 (evd_var rfl r1) (evf_lst (eva1 (evd_var rfl r2)) (by simp)).dd) ⟨W, L, a, gf, ha, rfl, rfl⟩) fun v3 H1 e1 r3 _ => ?_
  refine q_setF (evf_seenC gw gf (i := 1) (l := 3) rfl rfl (r1.ex e1) r3 (by show 5 < 19; decide) (by show 6 < 19; decide) (by decide) (by decide) (by decide)) fun v4 H2 e2 r4 _ => ?_
  refine q_setF (evf_seenT gw gf (i := 1) (l := 3) rfl rfl (r1.ex (e1.trans e2)) (r3.ex e2) (by show 5 < 19; decide) (by show 6 < 19; decide) (by decide) (by decide) (by decide)) fun v7 H3 e3 r7 _ => ?_
  have ex := (e1.trans e2).trans e3
  refine q_forTD (ix1 (evd_var rfl (r0.ex ex))) iT (still_traits _) (fun i σ' H' => ∃ x6 x8 x9 : Option V, σ' = [some v0, some v1, some v2, some v3, some v4, none, x6, some v7, x8, x9, none, none, none, none, none, none, none, none, none] ∧ Ex H3 H' ∧ (W.traits.take i).all (tOk L a) = true)
    (fun H4 e4 => ⟨none, none, none, rfl, e4, rfl⟩) ?_ ?_
  · rintro i di z σ' H' hi ⟨x6, x8, x9, rfl, ex', al⟩ rx
    obtain ⟨t, ht, rfl⟩ := get_map hi
    obtain ⟨u6, u8, u9, r6, r8, r9, tg⟩ := tgt3 rx iT
    refine tg _ _ ?_
    have mt := List.mem_of_getElem? ht
    have bl := gt_below gw.tra t mt
    refine d_when (b := !tOk L a t) (et_is (et_and (et_T (evd_inS (evd_var rfl r6) (ix2 (evd_at (evd_var rfl (r1.ex (ex.trans ex'))) (evd_var rfl (r2.ex (ex.trans ex'))) ma)) sT)) fun _ =>
      et_not (et_B (evd_allIn (src_tup (evd_var rfl r9) iT) (by omega) (by show 5 < 19; decide) fun x H5 e5 => evd_var rfl (r7.ex (ex'.trans e5))))) ?_) (fun hb H5 e5 => ?_) fun hb H5 e5 => ?_
    · unfold tOk
      rw [Bool.not_or, Bool.not_not]
    · refine d_ret (evf (d := .bl (known W L a)) (evd_is evd_bl ?_)) ((ex.trans ex').trans e5) k
      rw [Bool.not_eq_true'] at hb
      unfold known
      rw [knownT_eq, all_no mt hb]
      rfl
    · rw [Bool.not_eq_false'] at hb
      exact ⟨Ton.of e5, _, _, _, rfl, ex'.trans e5, by rw [all_take ht al, hb]⟩
  rintro σ' H4 ⟨x6, x8, x9, rfl, e4, al⟩
  rw [List.length_map, List.take_length, ← knownT_eq] at al
  have ex := ex.trans e4
  have r4 := r4.ex (e3.trans e4)
  have r7 := r7.ex e4
  refine q_forTD (ix3 (evd_at (evd_var rfl (r1.ex ex)) (evd_var rfl (r2.ex ex)) ma)) iT (still_map still_ins _) (fun i σ' H' => ∃ x10 x11 x12 x13 x14 x15 x17 : Option V, σ' = [some v0, some v1, some v2, some v3, some v4, none, x6, some v7, x8, x9, x10, x11, x12, x13, x14, x15, none, x17, none] ∧ Ex H4 H' ∧ ((modAt L a).ins.take i).all (iOk L a) = true)
    (fun H5 e5 => ⟨none, none, none, none, none, none, none, rfl, e5, rfl⟩) ?_ ?_
  · rintro i di z σ' H' hi ⟨x10, x11, x12, x13, x14, x15, x17, rfl, ex', al'⟩ rx
    obtain ⟨I, hI, rfl⟩ := get_map hi
    have mI := List.mem_of_getElem? hI
    have gi := gm.ins I mI
    obtain ⟨u10, u11, u12, u13, u14, r10, r11, r12, r13, r14, tg⟩ := tgt5 rx iT
    refine tg _ _ ?_
    have ll := lim_len gw gi
    have bl := body_len gi.b (by omega)
    have fa := gi.few
    refine q_setF (evf_roots gw gi (i := 11) (l := 12) (j := 16) rfl rfl (by show 16 < 19; decide) r11 r12) fun u15 H5 e5 r15 _ => ?_
    refine q_setF (evf_is (evf_cat (evf_cat (evf_lst (eva1 (evd_var rfl (r10.ex e5))) (by simp)).dd (evf_lcM askD (fun x => .str x.1) (src_tup (evd_var rfl (r13.ex e5)) iT) (by omega) (fun _ _ => rfl) fun y hy x H6 e6 rx => ⟨_, tgt1, rfl, ix0 (evd_var rfl rx)⟩).dd (by simp; omega)).dd
      (evf_lcM askD (fun x => .str x.1) (src_lst (evf_call (eva1 (evd_var rfl (r14.ex e5))) (body_call gi.b (by omega))).dd) (by omega) (fun _ _ => rfl) fun y hy x H6 e6 rx => ⟨_, tgt1, rfl, ix0 (evd_var rfl rx)⟩).dd (by simp; omega)) (e := .lst (I.used.map .str)) (by simp [Ins.used]; rfl)) fun u17 H6 e6 r17 _ => ?_
    have y := (ex'.trans e5).trans e6
    have rl := roots_len gw gi
    have ul := used_len gw gi
    refine d_when (b := !iOk L a I) (et_is (et_or (et_not (et_B (evd_allIn (src_lst (evd_var rfl (r15.ex e6))) (by omega) (by show 5 < 19; decide) fun x H7 e7 => evd_var rfl (r4.ex (y.trans e7))))) fun _ =>
      et_not (et_B (evd_allIn (src_lst (evd_var rfl r17)) (by omega) (by show 5 < 19; decide) fun x H7 e7 => evd_var rfl (r7.ex (y.trans e7))))) ?_) (fun hb H7 e7 => ?_) fun hb H7 e7 => ?_
    · unfold iOk
      rw [Bool.not_and]
    · refine d_ret (evf (d := .bl (known W L a)) (evd_is evd_bl ?_)) ((ex.trans y).trans e7) k
      rw [Bool.not_eq_true'] at hb
      unfold known
      rw [knownI_eq, all_no mI hb, Bool.and_false]
    · rw [Bool.not_eq_false'] at hb
      exact ⟨Ton.of ((e5.trans e6).trans e7), _, _, _, _, _, _, _, rfl, y.trans e7, by rw [all_take hI al', hb]⟩
  rintro σ' H5 ⟨x10, x11, x12, x13, x14, x15, x17, rfl, e5, al'⟩
  rw [List.length_map, List.take_length, ← knownI_eq] at al'
  refine d_ret (evf (d := .bl (known W L a)) (evd_is evd_bl ?_)) (ex.trans e5) k
  unfold known
  rw [al, al']
  rfl
end
end Lib

namespace Lib
open PySem L2 PySem.Spec PyProof.Rows Evl
section
variable {K : PySem.W.Frag} {w : World} {H H0 : Hp} {σ : L2.St} {ta te tb : TE} {d a0 a1 a2 : Dat} {ds es : List Dat} {D : Ends} {tz : TS}
theorem enum_range (ds : List Dat) : enumD ds = (List.range ds.length).map fun i => Dat.tup [.int (i : Nat), ds.getD i .non] := by
  refine List.ext_getElem? fun i => ?_
  unfold enumD
  rw [List.getElem?_mapIdx, List.getElem?_map]
  by_cases h : i < ds.length
  · rw [List.getElem?_eq_getElem h, List.getElem?_range h]
    simp [List.getD_eq_getElem?_getD, List.getElem?_eq_getElem h]
  · rw [List.getElem?_eq_none (by omega), List.getElem?_eq_none (by rw [List.length_range]; omega)]
    rfl
theorem all_range (bs : List Bool) : ((List.range bs.length).all fun i => bs.getD i false) = bs.all id := by
  have q : (List.range bs.length).map (fun i => bs.getD i false) = bs := by
    refine List.ext_getElem? fun i => ?_
    rw [List.getElem?_map]
    by_cases h : i < bs.length
    · rw [List.getElem?_eq_getElem h, List.getElem?_range h]
      simp [List.getD_eq_getElem?_getD, List.getElem?_eq_getElem h]
    · rw [List.getElem?_eq_none (l := List.range bs.length) (by rw [List.length_range]; omega), List.getElem?_eq_none (by omega)]
      rfl
  conv => rhs; rw [← q]
  rw [List.all_map]
  rfl
theorem q_sortedS {i : Nat} {ss : List Str} (h : Evd K te σ H (.lst (ss.map .str))) (len : ss.length ≤ 1000) (k : ∀ v H1 (zs : List Str), Ex H H1 → Rp K H1 v (.lst (zs.map .str)) → zs.Perm ss → (zs.map Dat.str).Pairwise (fun a b => leD a b = true) → tz D (σ.set i (some v)) H1) :
    tSeq (tAsg (tCB (rSortedX K) (tCons te tNil)) (gName i)) tz D σ H :=
  go_sorted h (alike_strs ss) (sortable_strs ss) (dep_strs ss) (by rw [List.length_map]; exact len) (Ex.refl H) fun v H2 es e r p w f => by
    obtain ⟨zs, ez, pz⟩ := strs_of p
    subst ez
    exact k v H2 zs e r pz w
theorem cn_up {W : Wd} (gw : GoodW W) : (cn W).Pairwise fun a b => strLt a b = true := by
  show (W.cons.map (·.1)).Pairwise _
  rw [List.pairwise_map]
  exact (row_f gw.row).up
theorem rd_is_library : Keeps (sp_is_library K w) N_is_library (t_is_library K w) := by
  rintro vs H Q E ⟨ds, r, ra, ⟨W, d, b, gw, lo, rfl, rfl⟩, k⟩
  obtain ⟨v0, v1, rfl, r0, r1⟩ := args2 ra
  refine q_dropD (evd_call (eva1 (evd_var rfl r0)) ⟨W, gw, rfl, rfl⟩) fun H1 e1 => ?_
  have mods : ∀ (ds : List Dat) (bs : List Bool) (H1 : Hp), Ex H H1 → Rp K H v1 (.tup ds) → ds.length ≤ 5 → bs.length = ds.length → (∀ (i : Nat) d b, ds[i]? = some d → bs[i]? = some b → ModOut W i d b) →
      Evd K (tCB (rAll K) (tCons (tLc (iEnumT K (tCons (tVar 1) tNil)) (gTup K 2 (gCons (gName 2) (gCons (gName 3) gNil))) tYes (tCall (sp_is_module K w) [] E0 (tCons (tVar 0) (tCons (tVar 3) (tCons (tVar 2) tNil)))) [2, 3]) tNil)) (start N_is_library [v0, v1]) H1 (.bl (bs.all id)) := by
    intro ds bs H1 e1 r1 l5 lb ok
    have src := src_enum (K := K) (σ := start N_is_library [v0, v1]) (H := H1) (tl := tVar 1) (evd_var rfl (r1.ex e1)) iT
    rw [enum_range] at src
    refine evd_is (evd_allM _ (fun i => bs.getD i false) src (by rw [List.length_range]; omega) fun i hi x H2 e2 rx => ?_) (by rw [← lb, all_range])
    have hi := List.mem_range.mp hi
    obtain ⟨u2, u3, r2, r3, tg⟩ := tgt2 rx iT
    refine ⟨_, tg _, rfl, evd_call (eva3 (evd_var rfl (r0.ex (e1.trans e2))) (evd_var rfl r3) (evd_var rfl r2)) ⟨W, _, i, _, gw, by omega, ok i _ _ ?_ ?_, rfl, rfl⟩⟩
    · simp [List.getD_eq_getElem?_getD, List.getElem?_eq_getElem hi]
    · simp [List.getD_eq_getElem?_getD, List.getElem?_eq_getElem (show i < bs.length by omega)]
  have pre : ∀ (ds : List Dat) (H1 : Hp), Ex H H1 → Rp K H v1 (.tup ds) → EvT (tOr (tNot (tB (tCB (rIsi K) (tCons (tVar 1) (tCons (tC (.ty "tuple")) tNil))))) (tNot (tTest (tChain rLe rLe (tC (.int 1)) (tCB (rLenX K) (tCons (tVar 1) tNil)) (tC (.int 5)))))) (start N_is_library [v0, v1]) H1 (!(decide (1 ≤ ds.length ∧ ds.length ≤ 5))) := by
    intro ds H1 e1 r1
    refine et_is (et_or (nt_T (evd_var rfl (r1.ex e1))) fun _ => et_not (et_T (evd_between evd_int (evd_len (evd_var rfl (r1.ex e1)) sT) evd_int))) ?_
    rw [Bool.false_or, Bool.decide_and]
    congr 2
    · simp
      omega
    · simp
      omega
  have good : ∀ (L : List Mo), GoodF W L → ∀ (H1 : Hp), Ex H H1 → Rp K H v1 (libD L) → ∀ (tz : TS), (∀ H2 v4 v6 (zc zt : List Str), Ex H H2 → Rp K H2 v4 (.lst (zc.map .str)) → Rp K H2 v6 (.lst (zt.map .str)) → zc.Perm (L.flatMap Mo.cons) → zt.Perm (L.flatMap Mo.traits) →
      (zc.map Dat.str).Pairwise (fun a b => leD a b = true) → (zt.map Dat.str).Pairwise (fun a b => leD a b = true) → tz { nx := fun _ H' => Q .non H', rt := Q } [some v0, some v1, none, none, some v4, none, some v6] H2) →
      tSeq (tIfS (tOr (tNot (tB (tCB (rIsi K) (tCons (tVar 1) (tCons (tC (.ty "tuple")) tNil))))) (tNot (tTest (tChain rLe rLe (tC (.int 1)) (tCB (rLenX K) (tCons (tVar 1) tNil)) (tC (.int 5)))))) (tRet (tC (.bl false))) tNext)
      (tSeq (tIfS (tNot (tB (tCB (rAll K) (tCons (tLc (iEnumT K (tCons (tVar 1) tNil)) (gTup K 2 (gCons (gName 2) (gCons (gName 3) gNil))) tYes (tCall (sp_is_module K w) [] E0 (tCons (tVar 0) (tCons (tVar 3) (tCons (tVar 2) tNil)))) [2, 3]) tNil)))) (tRet (tC (.bl false))) tNext)
      (tSeq (tAsg (tCB (rSortedX K) (tCons (tLc2 (iTup K (tVar 1)) (gName 3) tYes (iTup K (tOp (rIx K) (tVar 3) (tC (.int 1)))) (gName 5) tYes (tVar 5) [3, 5] [5]) tNil)) (gName 4))
      (tSeq (tAsg (tCB (rSortedX K) (tCons (tLc2 (iTup K (tVar 1)) (gName 3) tYes (iTup K (tOp (rIx K) (tVar 3) (tC (.int 2)))) (gName 5) tYes (tVar 5) [3, 5] [5]) tNil)) (gName 6)) tz)))
      { nx := fun _ H' => Q .non H', rt := Q } (start N_is_library [v0, v1]) H1 := by
    intro L gf H1 e1 r1 tz kz
    have l5 := gf.few
    refine q_pass (et_is (pre _ H1 e1 r1) (by rw [List.length_map, decide_eq_true ⟨gf.pos, gf.few⟩]; rfl)) fun H2 e2 => ?_
    refine q_pass (no_B (evd_is (mods (L.map Mo.d) (List.replicate L.length true) H2 (e1.trans e2) r1 (by rw [List.length_map]; omega) (by rw [List.length_replicate, List.length_map]) fun i d b hd hb => ?_) (by rw [all_true]))) fun H3 e3 => ?_
    · obtain ⟨m, hm, rfl⟩ := get_map hd
      have eb : b = true := by
        have := List.mem_of_getElem? hb
        exact (List.mem_replicate.mp this).2
      subst eb
      exact .good m (gf.mods _ _ hm)
    have ex := (e1.trans e2).trans e3
    have lc := flat_len Mo.cons 4 L fun m hm => by
      obtain ⟨i, hi, e⟩ := List.getElem_of_mem hm
      rw [← e]
      exact gm_con gw (gf.mods _ _ (List.getElem?_eq_getElem hi))
    have lt := flat_len Mo.traits 3 L fun m hm => by
      obtain ⟨i, hi, e⟩ := List.getElem_of_mem hm
      rw [← e]
      exact gm_tra gw (gf.mods _ _ (List.getElem?_eq_getElem hi))
    refine q_sortedS (evf_lc2 Mo.d Mo.cons Dat.str (src_tup (evd_var rfl (r1.ex ex)) iT) (by omega) (fun _ => rfl) fun m hm x H4 e4 rx => ⟨_, tgt1, rfl, by show 5 < 7; decide, ix1 (evd_var rfl rx)⟩).dd (by omega) fun v4 H4 zc e4 r4 pc wc => ?_
    refine q_sortedS (evf_lc2 Mo.d Mo.traits Dat.str (src_tup (evd_var rfl (r1.ex (ex.trans e4))) iT) (by omega) (fun _ => rfl) fun m hm x H5 e5 rx => ⟨_, tgt1, rfl, by show 5 < 7; decide, ix2 (evd_var rfl rx)⟩).dd (by omega) fun v6 H5 zt e5 r6 pt wt => ?_
    exact kz H5 v4 v6 zc zt ((ex.trans e4).trans e5) (r4.ex e5) r6 pc pt wc wt
  have okc : ∀ (L : List Mo), GoodF W L → ∀ s, s ∈ L.flatMap Mo.cons → PyData.strOk s = true := fun L gf s m => by
    obtain ⟨x, hx, hs⟩ := List.mem_flatMap.mp m
    obtain ⟨i, hi, e⟩ := List.getElem_of_mem hx
    exact strOk_c (cn_in gw ((gf.mods i x (by rw [List.getElem?_eq_getElem hi, e])).con s hs))
  have okt : ∀ (L : List Mo), GoodF W L → ∀ s, s ∈ L.flatMap Mo.traits → PyData.strOk s = true := fun L gf s m => by
    obtain ⟨x, hx, hs⟩ := List.mem_flatMap.mp m
    obtain ⟨i, hi, e⟩ := List.getElem_of_mem hx
    exact strOk_t (tn_in gw ((gf.mods i x (by rw [List.getElem?_eq_getElem hi, e])).tra s hs))
  cases lo with
  | notT d h => exact q_take (or_1 (ya_T (evd_var rfl (r1.ex e1)) h)) fun H2 e2 => d_ret (evf evd_bl) (e1.trans e2) k
  | len ds h hl => exact q_take (et_is (pre ds H1 e1 r1) (by rw [decide_eq_false h]; rfl)) fun H2 e2 => d_ret (evf evd_bl) (e1.trans e2) k
  | mods ds bs h1 h5 hb ok no =>
    refine q_pass (et_is (pre ds H1 e1 r1) (by rw [decide_eq_true ⟨h1, h5⟩]; rfl)) fun H2 e2 => ?_
    exact q_take (ya_B (evd_is (mods ds bs H2 (e1.trans e2) r1 h5 hb ok) (by rw [no]))) fun H3 e3 => d_ret (evf evd_bl) ((e1.trans e2).trans e3) k
  | names L gf nl =>
    refine good L gf H1 e1 r1 _ fun H2 v4 v6 zc zt ex r4 r6 pc pt wc wt => ?_
    refine q_take (or_1 (neL_t (evd_var rfl r4) (evf_cons gw (i := 0) (j := 3) rfl (by show 3 < 7; decide) (by decide) (r0.ex ex)).dd (shaped_strs fun s m => okc L gf s (pc.mem_iff.mp m)) (shaped_strs fun s m => strOk_c (cn_in gw m)) ?_)) fun H3 e3 => d_ret (evf evd_bl) (ex.trans e3) k
    rw [List.length_map, List.length_map, pc.length_eq]
    exact nl
  | lib L gn =>
    have gf := gn.toGoodF
    refine good L gf H1 e1 r1 _ fun H2 v4 v6 zc zt ex r4 r6 pc pt wc wt => ?_
    have ec := strs_one ((pc.trans gn.con).map Dat.str) wc (cn_up gw)
    rw [ec] at r4
    refine q_pass (or_f (neL_f (evd_var rfl r4) (evf_cons gw (i := 0) (j := 3) rfl (by show 3 < 7; decide) (by decide) (r0.ex ex)).dd (shaped_strs fun s m => strOk_c (cn_in gw m))) (neL_f (evd_var rfl r6) (evf_sorted (evd_call (eva1 (evd_var rfl (r0.ex ex))) ⟨W, gw, rfl, rfl⟩) (alike_strs _) (sortable_strs _) (dep_strs _) (by have := tn_len gw; rw [List.length_map]; omega) fun es pe we => ?_).dd (shaped_strs fun s m => okt L gf s (pt.mem_iff.mp m)))) fun H3 e3 => ?_
    · exact strs_two pe (List.Perm.refl _) (gn.tra.symm.trans pt.symm) we wt
    have ex := ex.trans e3
    have l5 := gf.few
    refine d_ret (evf (evd_allM (fun n : Nat => Dat.int (n : Nat)) (xs := List.range L.length) (known W L) (src_range (n := (L.length : Int)) (evd_is (evd_len (evd_var rfl (r1.ex ex)) sT) (by rw [List.length_map])) (by omega) (by omega)) (by rw [List.length_range]; omega) fun n hn x H4 e4 rx => ?_)) ex k
    exact ⟨_, tgt1, rfl, evd_call (eva3 (evd_var rfl (r0.ex (ex.trans e4))) (evd_var rfl (r1.ex (ex.trans e4))) (evd_var rfl rx)) ⟨W, L, n, gw, gn, List.mem_range.mp hn, rfl, rfl⟩⟩
theorem rd_check_library : Keeps (sp_check_library K w) N_check_library (t_check_library K w) := by
  rintro vs H Q E ⟨ds, r, ra, ⟨W, L, gw, gn, al, rfl, rfl⟩, k⟩
  obtain ⟨v0, v1, rfl, r0, r1⟩ := args2 ra
  refine q_dropD (evd_call (eva1 (evd_var rfl r0)) ⟨W, gw, rfl, rfl⟩) fun H1 e1 => ?_
  exact d_pass (no_B (evd_call (eva2 (evd_var rfl (r0.ex e1)) (evd_var rfl (r1.ex e1))) ⟨W, _, true, gw, by rw [← al]; exact .lib L gn, rfl, rfl⟩)) fun H2 e2 => k _ H2 (e1.trans e2) .non (frs_not rfl)
theorem rd_check_module : Keeps (sp_check_module K w) N_check_module (t_check_module K w) := by
  rintro vs H Q E ⟨ds, r, ra, ⟨L, n, hn, rfl, rfl⟩, k⟩
  obtain ⟨v0, v1, rfl, r0, r1⟩ := args2 ra
  refine d_pass (no_B (evd_call (eva3 (evd_var rfl r1) evd_int (evd_sub (evd_len (evd_var rfl r0) sT) evd_int)) ⟨_, _, _, rfl, ?_⟩)) fun H2 e2 => k _ H2 e2 .non (frs_not rfl)
  rw [List.length_map]
  show Dat.bl true = Dat.bl (decide ((0 : Int) ≤ (n : Int)) && decide ((n : Int) ≤ (L.length : Int) - 1))
  rw [decide_eq_true (by omega : (0 : Int) ≤ (n : Int)), decide_eq_true (by omega : (n : Int) ≤ (L.length : Int) - 1)]
  rfl
theorem ins_len {W : Wd} {L : List Mo} {k : Nat} (gf : GoodF W L) : (insSeen L k).length ≤ 100 := by
  have q := flat_len (fun n => (modAt L n).ins) 4 (seen L k) fun n hn => (good_at gf (seen_lt hn)).few
  have l5 := gf.few
  have sl := seen_len (L := L) (a := k)
  show ((seen L k).flatMap fun n => (modAt L n).ins).length ≤ 100
  omega
theorem rd_set_seen : Keeps (sp_set_seen K w) N_set_seen (t_set_seen K w) := by
  rintro vs H Q E ⟨ds, r, ra, ⟨W, L, n, gf, hn, rfl, rfl⟩, k⟩
  obtain ⟨v0, v1, rfl, r0, r1⟩ := args2 ra
  refine q_set (K := K) (evd_tup eva_nil) fun v2 H1 e1 r2 => ?_
  refine q_forLD (evf_call (eva2 (evd_var rfl (r0.ex e1)) (evd_var rfl (r1.ex e1))) ⟨W, L, n, gf, hn, rfl, rfl⟩) (still_nats _) (fun a xs i σ' H' => ∃ (x2 : V) (x3 : Option V), σ' = [some v0, some v1, some x2, x3] ∧ Ex H H' ∧ H' a = some (.lst xs) ∧ Rp K H' x2 (.tup ((((seen L n).take i).flatMap fun k => (modAt L k).ins).map Ins.d)))
    (fun a xs H2 e2 ha ha' rxs => ⟨v2, none, rfl, e1.trans e2, ha', r2.ex e2⟩) (fun a xs i σ' H' ⟨x2, x3, _, _, h, _⟩ => h) ?_ ?_
  · rintro a xs i di z σ' H' hi ⟨x2, x3, rfl, ex, ha, rx2⟩ rx
    obtain ⟨m, hm, rfl⟩ := get_map hi
    have ml := seen_lt (List.mem_of_getElem? hm)
    have tl := flat_take_len (fun k => (modAt L k).ins) (seen L n) (i + 1)
    have tk := flat_take (fun k => (modAt L k).ins) hm
    rw [tk, List.length_append] at tl
    have il := ins_len (k := n) gf
    have il : ((seen L n).flatMap fun k => (modAt L k).ins).length ≤ 100 := il
    refine d_set (evd_catT (evd_var rfl rx2) (ix3 (evd_at (evd_var rfl (r0.ex ex)) (evd_var rfl rx) (mod_at ml))) (d := .non) (e := .non) (by rw [List.length_map, List.length_map]; omega)) fun v H2 e2 r => ⟨Ton.of e2, v, _, rfl, ex.trans e2, e2 _ _ ha, ?_⟩
    rw [tk, List.map_append]
    exact r
  · rintro a xs σ' H' ⟨x2, x3, rfl, ex, ha, rx2⟩
    rw [List.length_map, List.take_length] at rx2
    exact d_ret (evf (evd_var rfl rx2)) ex k
theorem rd_seen_set : Keeps (sp_seen_set K w) N_seen_set (t_seen_set K w) := by
  rintro vs H Q E ⟨ds, r, ra, ⟨W, L, n, gw, gn, al, hn, rfl, rfl⟩, k⟩
  obtain ⟨v0, v1, v2, rfl, r0, r1, r2⟩ := args3 ra
  refine q_dropD (evd_call (eva2 (evd_var rfl r0) (evd_var rfl r1)) ⟨W, L, gw, gn, al, rfl, rfl⟩) fun H1 e1 => ?_
  refine q_dropD (evd_call (eva2 (evd_var rfl (r1.ex e1)) (evd_var rfl (r2.ex e1))) ⟨L, n, hn, rfl, rfl⟩) fun H2 e2 => ?_
  have ex := e1.trans e2
  exact d_ret (evf (evd_call (eva2 (evd_var rfl (r1.ex ex)) (evf_lst (eva1 (evd_var rfl (r2.ex ex))) (by simp)).dd) ⟨W, L, n, gn.toGoodF, hn, rfl, rfl⟩)) ex k
theorem rd_keeps_home : Keeps (sp_keeps_home K w) N_keeps_home (t_keeps_home K w) := by
  rintro vs H Q E ⟨ds, r, ra, ⟨W, L, n, gw, gn, al, hn, rfl, rfl⟩, k⟩
  obtain ⟨v0, v1, v2, rfl, r0, r1, r2⟩ := args3 ra
  refine q_dropD (evd_call (eva2 (evd_var rfl r0) (evd_var rfl r1)) ⟨W, L, gw, gn, al, rfl, rfl⟩) fun H1 e1 => ?_
  refine q_dropD (evd_call (eva2 (evd_var rfl (r1.ex e1)) (evd_var rfl (r2.ex e1))) ⟨L, n, hn, rfl, rfl⟩) fun H2 e2 => ?_
  have ex := e1.trans e2
  refine q_unp (evd_at (evd_var rfl (r1.ex ex)) (evd_var rfl (r2.ex ex)) (mod_at hn)) fun v H3 e3 rv => ?_
  obtain ⟨u3, u4, u5, u6, r3, r4, r5, r6, tg⟩ := tgt4 rv iT
  refine ⟨_, tg _, ?_⟩
  have few := (good_at gn.toGoodF hn).few
  refine d_ret (evf (evd_allM Ins.d (fun I => decide (I.trait ∈ (modAt L n).traits) || decide (I.root ∈ (modAt L n).cons)) (src_tup (evd_var rfl r6) iT) (by omega) fun I hI x H4 e4 rx => ?_)) (ex.trans e3) k
  exact ⟨_, tgt1, rfl, evd_or (evd_inS (ix0 (evd_var rfl rx)) (evd_var rfl (r5.ex e4)) sT) fun _ => evd_inS (ix1 (evd_var rfl rx)) (evd_var rfl (r4.ex e4)) sT⟩
end
end Lib

namespace Lib
open PySem L2 PySem.Spec PyProof.Rows Evl
section
variable {K : PySem.W.Frag} {w : World} {H H0 : Hp} {σ : L2.St} {ta te tb : TE} {d a0 a1 a2 : Dat} {ds es : List Dat} {D : Ends} {tz : TS}
theorem rd__law_traits : Keeps (sp__law_traits K w) N__law_traits (t__law_traits K w) := by
  rintro vs H Q E ⟨ds, r, ra, ⟨W, gw, rfl, rfl⟩, k⟩
  obtain ⟨v0, rfl, r0⟩ := args1 ra
  refine d_ret (evf_is (evf_lcM traitD (fun t => .str t.1) (src_tup (ix1 (evd_var rfl r0)) iT) (gw_few gw) (fun _ _ => rfl) fun t _ x H1 e1 rx => ⟨_, tgt1, rfl, ix0 (evd_var rfl rx)⟩) ?_) (Ex.refl H) k
  rw [List.map_map]
  rfl
theorem sees_step {W : Wd} {L : List Mo} {a : Nat} (gf : GoodF W L) (ha : a < L.length) (m : Nat) : m ∈ seen L a ↔ m = a ∨ ∃ j, j ∈ (modAt L a).imports ∧ m ∈ seen L j := by
  rw [mem_seen]
  constructor
  · rintro ⟨hm, s⟩
    cases s with
    | self => exact .inl rfl
    | step h i s =>
      rw [mod_at ha] at h
      cases h
      exact .inr ⟨_, i, mem_seen.mpr ⟨hm, s⟩⟩
  · rintro (rfl | ⟨j, hj, hm⟩)
    · exact ⟨ha, .self _⟩
    · exact ⟨(mem_seen.mp hm).1, .step (mod_at ha) hj (mem_seen.mp hm).2⟩
theorem rd__law_sees (n : Nat) : Keeps (sp__law_sees K w (n + 1)) N__law_sees (t__law_sees K w n) := by
  rintro vs H Q E ⟨ds, r, ra, ⟨W, L, a, gf, ha, hn, rfl, rfl⟩, k⟩
  obtain ⟨v0, v1, rfl, r0, r1⟩ := args2 ra
  have gm := good_at gf ha
  have ma := mod_at ha
  have l5 := gf.few
  have il := imp_len gm.impUp gm.imp
  refine q_set (K := K) (evf_lst (eva1 (evd_var rfl r1)) (by simp)).dd fun v2 H1 e1 r2 => ?_
  refine q_forTD (ix0 (evd_at (evd_var rfl (r0.ex e1)) (evd_var rfl (r1.ex e1)) ma)) iT (still_nats _) (fun i σ' H' => ∃ (x2 : V) (x3 : Option V), σ' = [some v0, some v1, some x2, x3] ∧ Ex H H' ∧ Rp K H' x2 (.lst ((a :: ((modAt L a).imports.take i).flatMap (seen L)).map natD)))
    (fun H2 e2 => ⟨v2, none, rfl, e1.trans e2, r2.ex e2⟩) ?_ ?_
  · rintro i di z σ' H' hi ⟨x2, x3, rfl, ex, rx2⟩ rx
    obtain ⟨j, hj, rfl⟩ := get_map hi
    have lj := gm.imp j (List.mem_of_getElem? hj)
    have sl := seen_len (L := L) (a := j)
    have ft := flat_take_len (seen L) (modAt L a).imports i
    have fl := flat_len (seen L) 5 (modAt L a).imports fun x _ => by have := seen_len (L := L) (a := x); omega
    refine d_set (evf_cat (evd_var rfl rx2) (evf_call (eva2 (evd_var rfl (r0.ex ex)) (evd_var rfl rx)) ⟨W, L, j, gf, by omega, by omega, rfl, rfl⟩).dd (by simp only [List.length_map, List.length_cons]; omega)).dd fun v H2 e2 r => ⟨Ton.of e2, v, _, rfl, ex.trans e2, ?_⟩
    rw [flat_take _ hj]
    rw [← List.map_append] at r
    exact r
  · rintro σ' H2 ⟨x2, x3, rfl, ex, rx2⟩
    rw [List.length_map, List.take_length] at rx2
    have fl := flat_len (seen L) 5 (modAt L a).imports fun x _ => by have := seen_len (L := L) (a := x); omega
    obtain ⟨p, xs, ep, hp, rp⟩ := rp_L rx2
    rw [nats_ints] at rp
    have exs := rpAll_ints rp
    subst ep
    rw [exs] at hp
    refine ⟨_, rfl, p, _, rfl, SqL.of hp, by simp only [List.length_map, List.length_cons]; omega, fun q c hq hc => ?_⟩
    refine ⟨q, _, c, rfl, upd_same, ?_, fun ys l up mem len hl => ?_⟩
    · simp only [List.length_map, List.length_cons] at hc
      omega
    · have fl : H l = none := fresh_back (ex.trans (Ex.new hq)) hl
      refine k _ _ ((ex.trans (Ex.new hq)).trans (Ex.new hl)) (.lst upd_same ?_) (frs_new fl)
      have ey : ys = (seen L a).map fun n => ((n : Nat) : Int) := by
        refine ints_one ?_ (up.imp fun {x y} h => by omega) seen_up
        refine (List.perm_ext_iff_of_nodup (up.imp fun {x y} h => by omega) ?_).mpr fun x => ?_
        · refine List.pairwise_map.mpr (seen_up.imp fun {x y} h => by omega)
        · rw [mem x, decide_eq_true_eq, List.mem_map, List.mem_map]
          constructor
          · rintro ⟨m, hm, rfl⟩
            refine ⟨m, (sees_step gf ha m).mpr ?_, rfl⟩
            rcases List.mem_cons.mp hm with h | h
            · exact .inl h
            · obtain ⟨j, hj, h⟩ := List.mem_flatMap.mp h
              exact .inr ⟨j, hj, h⟩
          · rintro ⟨m, hm, rfl⟩
            refine ⟨m, ?_, rfl⟩
            rcases (sees_step gf ha m).mp hm with h | ⟨j, hj, h⟩
            · exact List.mem_cons.mpr (.inl h)
            · exact List.mem_cons_of_mem _ (List.mem_flatMap.mpr ⟨j, hj, h⟩)
      rw [ey, nats_ints]
      exact ints_rpAll _
theorem rd__law_asked (n : Nat) : Keeps (sp__law_asked K w (n + 1)) N__law_asked (t__law_asked K w n) := by
  rintro vs H Q E ⟨ds, r, ra, hx, k⟩
  have fin : ∀ (v0 : V) (h : Str) (xs : List Rk) (as : List Str) (zs : List Dat), Rp K H v0 (.tup (.str h :: zs)) → ¬ h = "made" → (∀ x, x ∈ xs → x.depth ≤ n ∧ x.count ≤ 15) → as.length ≤ 1 → (xs.flatMap Rk.asks).length ≤ 100 →
      (∀ σ H1, σ[0]? = some (some v0) → Ex H H1 → Evf K (tIf (tTest (tOp (rEqX K) (tOp (rIx K) (tVar 0) (tC (.int 0))) (tC (.str "tell")))) (tLst (tCons (tOp (rIx K) (tVar 0) (tC (.int 1))) tNil)) (tLst tNil)) σ H1 (.lst (as.map .str))) →
      (∀ σ H1, σ[0]? = some (some v0) → Ex H H1 → Evd K (tIf (tTest (tOp (rIn K false) (tOp (rIx K) (tVar 0) (tC (.int 0))) (tTup (tCons (tC (.str "plus")) (tCons (tC (.str "times")) tNil))))) (tSl (rSlT K) (tVar 0) (tPart (tC (.int 1))) tNoPart) (tTup tNil)) σ H1 (.tup (xs.map Rk.d))) →
      r = .lst ((as ++ (xs.flatMap Rk.asks).map (·.1)).map .str) → t__law_asked K w n { nx := fun _ H' => Q .non H', rt := Q } (start N__law_asked [v0]) H := by
    intro v0 h xs as zs r0 n1 ok la lx h1 h2 er
    subst er
    refine q_pass (eqS_f (ix0 (evd_var rfl r0)) n1) fun H1 e1 => ?_
    refine q_setF (h1 _ _ rfl e1) fun v2 H2 e2 r2 f2 => ?_
    obtain ⟨p, rfl, fp⟩ := f2 _ rfl
    have ex := e1.trans e2
    refine q_forTD (h2 _ _ rfl ex) iT (still_map still_rk xs) (fun i σ' H' => ∃ (q : Addr) (x3 : Option V), σ' = [some v0, none, some (.ref q), x3] ∧ Ex H H' ∧ H q = none ∧ Rp K H' (.ref q) (.lst ((as ++ ((xs.take i).flatMap Rk.asks).map (·.1)).map .str)))
      (fun H3 e3 => ⟨p, none, rfl, ex.trans e3, fresh_back e1 fp, by simpa using r2.ex e3⟩) ?_ ?_
    · rintro i di z σ' H' hi ⟨q, x3, rfl, ex', fq, rq⟩ rx
      obtain ⟨y, hy, rfl⟩ := get_map hi
      obtain ⟨dy, cy⟩ := ok y (List.mem_of_getElem? hy)
      have ft := flat_take_len Rk.asks xs i
      have ly := asks_len y
      refine d_setF (evf_cat (evd_var rfl rq) (evf_call (eva1 (evd_var rfl rx)) (.inl ⟨y, dy, rfl, cy, rfl⟩)).dd (by simp only [List.length_map, List.length_append]; omega)) fun v H3 e3 r3 f3 => ?_
      obtain ⟨q', rfl, fq'⟩ := f3 _ rfl
      refine ⟨Ton.of e3, q', _, rfl, ex'.trans e3, fresh_back ex' fq', ?_⟩
      rw [flat_take _ hy]
      have e : (as ++ ((xs.take i).flatMap Rk.asks ++ y.asks).map (·.1)).map Dat.str = (as ++ ((xs.take i).flatMap Rk.asks).map (·.1)).map Dat.str ++ y.asks.map fun y => Dat.str y.1 := by
        rw [List.map_append (l₁ := (xs.take i).flatMap Rk.asks), ← List.append_assoc, List.map_append (l₁ := as ++ _), List.map_map (l := y.asks)]
        rfl
      rw [e]
      exact r3
    · rintro σ' H' ⟨q, x3, rfl, ex', fq, rq⟩
      rw [List.length_map, List.take_length] at rq
      exact d_retV rfl rq fq ex' k
  rcases hx with ⟨x, dep, rfl, few, er⟩ | ⟨x, ps, hn, few, rfl, rfl⟩
  · obtain ⟨v0, rfl, r0⟩ := args1 ra
    have er : r = .lst ((([] : List Str) ++ x.asks.map fun y : Str × Nat => y.1).map .str) := by rw [er, List.nil_append, List.map_map]; rfl
    cases x with
    | tell t p =>
      refine fin v0 "tell" [] [t] _ r0 (by decide +kernel) (by simp) (by simp) (by simp) (fun σ H1 h e => ?_) (fun σ H1 h e => ?_) (by rw [er]; rfl)
      · intro H2 x Q q
        exact (eqS_t (ix0 (evd_var h (r0.ex e))) rfl) H2 x _ fun H3 e3 => L2.iteT (evf_lst (eva1 (ix1 (evd_var h (r0.ex e)))) (by simp) H3 (x.trans e3) _ fun v H4 e4 r f => q v H4 (e3.trans e4) r (f.back e3))
      · exact evd_ifE (b := false) (et_is (et_T (evd_inS (ss := ["plus", "times"]) (ix0 (evd_var h (r0.ex e))) (evd_tup (eva2 evd_str evd_str) (by simp)) sT)) (by decide +kernel)) (fun z => nomatch z) fun _ => evd_tup eva_nil
    | num m =>
      refine fin v0 "number" [] [] _ r0 (by decide +kernel) (by simp) (by simp) (by simp) (fun σ H1 h e => ?_) (fun σ H1 h e => ?_) (by rw [er]; rfl)
      · intro H2 x Q q
        exact (eqS_f (ix0 (evd_var h (r0.ex e))) (by decide +kernel)) H2 x _ fun H3 e3 => L2.iteF (evf_lst eva_nil (by simp) H3 (x.trans e3) _ fun v H4 e4 r f => q v H4 (e3.trans e4) r (f.back e3))
      · exact evd_ifE (b := false) (et_is (et_T (evd_inS (ss := ["plus", "times"]) (ix0 (evd_var h (r0.ex e))) (evd_tup (eva2 evd_str evd_str) (by simp)) sT)) (by decide +kernel)) (fun z => nomatch z) fun _ => evd_tup eva_nil
    | mark =>
      refine fin v0 "mark" [] [] _ r0 (by decide +kernel) (by simp) (by simp) (by simp) (fun σ H1 h e => ?_) (fun σ H1 h e => ?_) (by rw [er]; rfl)
      · intro H2 x Q q
        exact (eqS_f (ix0 (evd_var h (r0.ex e))) (by decide +kernel)) H2 x _ fun H3 e3 => L2.iteF (evf_lst eva_nil (by simp) H3 (x.trans e3) _ fun v H4 e4 r f => q v H4 (e3.trans e4) r (f.back e3))
      · exact evd_ifE (b := false) (et_is (et_T (evd_inS (ss := ["plus", "times"]) (ix0 (evd_var h (r0.ex e))) (evd_tup (eva2 evd_str evd_str) (by simp)) sT)) (by decide +kernel)) (fun z => nomatch z) fun _ => evd_tup eva_nil
    | plus a b =>
      simp only [Rk.depth] at dep
      have := asks_len (.plus a b)
      simp only [Rk.count] at few this
      refine fin v0 "plus" [a, b] [] _ r0 (by decide +kernel) ?_ (by simp) (by simp only [Rk.asks] at this; simp at this ⊢; omega) (fun σ H1 h e => ?_) (fun σ H1 h e => ?_) (by rw [er]; simp [Rk.asks])
      · intro z hz
        rcases List.mem_cons.mp hz with e | hz
        · subst e; exact ⟨by omega, by omega⟩
        · rw [List.mem_singleton.mp hz]; exact ⟨by omega, by omega⟩
      · intro H2 x Q q
        exact (eqS_f (ix0 (evd_var h (r0.ex e))) (by decide +kernel)) H2 x _ fun H3 e3 => L2.iteF (evf_lst eva_nil (by simp) H3 (x.trans e3) _ fun v H4 e4 r f => q v H4 (e3.trans e4) r (f.back e3))
      · exact evd_ifE (b := true) (et_is (et_T (evd_inS (ss := ["plus", "times"]) (ix0 (evd_var h (r0.ex e))) (evd_tup (eva2 evd_str evd_str) (by simp)) sT)) (by decide +kernel)) (fun _ => sl1 (evd_var h (r0.ex e))) fun z => nomatch z
    | times a b =>
      simp only [Rk.depth] at dep
      have := asks_len (.times a b)
      simp only [Rk.count] at few this
      refine fin v0 "times" [a, b] [] _ r0 (by decide +kernel) ?_ (by simp) (by simp only [Rk.asks] at this; simp at this ⊢; omega) (fun σ H1 h e => ?_) (fun σ H1 h e => ?_) (by rw [er]; simp [Rk.asks])
      · intro z hz
        rcases List.mem_cons.mp hz with e | hz
        · subst e; exact ⟨by omega, by omega⟩
        · rw [List.mem_singleton.mp hz]; exact ⟨by omega, by omega⟩
      · intro H2 x Q q
        exact (eqS_f (ix0 (evd_var h (r0.ex e))) (by decide +kernel)) H2 x _ fun H3 e3 => L2.iteF (evf_lst eva_nil (by simp) H3 (x.trans e3) _ fun v H4 e4 r f => q v H4 (e3.trans e4) r (f.back e3))
      · exact evd_ifE (b := true) (et_is (et_T (evd_inS (ss := ["plus", "times"]) (ix0 (evd_var h (r0.ex e))) (evd_tup (eva2 evd_str evd_str) (by simp)) sT)) (by decide +kernel)) (fun _ => sl1 (evd_var h (r0.ex e))) fun z => nomatch z
  · obtain ⟨v0, rfl, r0⟩ := args1 ra
    have r0 : Rp K H v0 (.tup (.str "made" :: x.d :: ps.map madeD)) := r0
    refine q_take (eqS_t (ix0 (evd_var rfl r0)) rfl) fun H1 e1 => ?_
    refine d_ret (evf_is (evf_lcM madeD (fun z => .str z.1) (src_tup (sl2 (evd_var rfl (r0.ex e1))) iT) (by omega) (fun _ _ => rfl) fun z hz y H2 e2 rx => ⟨_, tgt1, rfl, ix0 (evd_var rfl rx)⟩) ?_) e1 k
    congr 1
    refine List.ext_getElem? fun i => ?_
    simp [Body.asks]
    cases ps[i]? <;> rfl
end
end Lib

namespace Lib
open PySem L2 PySem.Spec PyProof.Rows Evl
theorem set_self : ∀ {σ : L2.St} {i : Nat} {x : Option V}, σ[i]? = some x → σ.set i x = σ := by
  intro σ i x h
  refine List.ext_getElem? fun j => ?_
  by_cases e : i = j
  · subst e
    rw [List.getElem?_set_self (List.getElem?_eq_some_iff.mp h).1, h]
  · rw [List.getElem?_set_ne e]
theorem empty_filter (z : List Str) : ∀ l : List Str, (l.filter fun s => !decide (s ∈ z)).isEmpty = l.all fun s => decide (s ∈ z)
  | [] => rfl
  | s :: l => by
    have ih := empty_filter z l
    by_cases h : s ∈ z
    · simp only [List.filter_cons, h, decide_true, Bool.not_true, Bool.false_eq_true, if_false, List.all_cons, Bool.true_and]
      exact ih
    · simp only [List.filter_cons, h, decide_false, Bool.not_false, if_true, List.all_cons, Bool.false_and, List.isEmpty_cons]
theorem empty_app {α : Type} (a b : List α) : (a ++ b).isEmpty = (a.isEmpty && b.isEmpty) := by cases a <;> rfl
theorem filter_snoc {c : Nat → List Str} {ns : List Nat} {i n : Nat} (h : ns[i]? = some n) (us : List Str) :
    ((us.filter fun s => !decide (s ∈ (ns.take i).flatMap c)).filter fun s => !decide (s ∈ c n)) = us.filter fun s => !decide (s ∈ (ns.take (i + 1)).flatMap c) := by
  rw [List.filter_filter, flat_take c h]
  congr 1
  funext s
  rw [← Bool.not_or, ← Bool.decide_or]
  congr 1
  simp only [List.mem_append]
  rw [Bool.decide_or, Bool.decide_or, Bool.or_comm]
theorem rk_asks {W : Wd} {p : Int} : ∀ {r : Rk}, GoodRk W p r → ∀ x, x ∈ r.asks → x.1 ∈ tn W
  | .num _, _, x, m => by simp [Rk.asks] at m
  | .mark, _, x, m => by simp [Rk.asks] at m
  | .tell t q, g, x, m => by
    obtain ⟨_, b, hb⟩ := g
    simp [Rk.asks] at m
    subst m
    exact mem_tn hb
  | .plus a b, g, x, m => by
    rcases List.mem_append.mp m with m | m
    · exact rk_asks g.1 x m
    · exact rk_asks g.2 x m
  | .times a b, g, x, m => by
    rcases List.mem_append.mp m with m | m
    · exact rk_asks g.1 x m
    · exact rk_asks g.2 x m
theorem used_in {W : Wd} {I : Ins} (gi : GoodI W I) : ∀ s, s ∈ I.used → s ∈ tn W := by
  intro s m
  unfold Ins.used at m
  rcases List.mem_cons.mp m with m | m
  · rw [m]
    exact gi.t
  rcases List.mem_append.mp m with m | m
  · obtain ⟨x, hx, rfl⟩ := List.mem_map.mp m
    exact (gi.a x hx).1
  · obtain ⟨x, hx, rfl⟩ := List.mem_map.mp m
    cases hb : I.body with
    | reck r =>
      have g := gi.b
      rw [hb] at g hx
      cases g with
      | reck _ _ sh => exact rk_asks sh.good x hx
    | made r ps =>
      have g := gi.b
      rw [hb] at g hx
      cases g with
      | made _ _ _ _ _ al =>
        simp only [Body.asks] at hx
        obtain ⟨i, hi, e⟩ := List.mem_mapIdx.mp hx
        obtain ⟨⟨b, hb⟩, _⟩ := al _ (List.getElem_mem hi)
        rw [← e]
        exact mem_tn hb
theorem roots_in {W : Wd} {I : Ins} (gi : GoodI W I) : ∀ s, s ∈ I.roots → s ∈ cn W := by
  intro s m
  unfold Ins.roots at m
  rcases List.mem_cons.mp m with m | m
  · rw [m]
    exact List.mem_map.mpr ⟨_, gi.c, rfl⟩
  · obtain ⟨o, ho, e⟩ := List.mem_filterMap.mp m
    have e : o = some s := e
    rw [e] at ho
    exact gi.l s ho
theorem below_in {W : Wd} (gw : GoodW W) {t : Str × Bool × List Str} (m : t ∈ W.traits) : ∀ b, b ∈ t.2.2 → b ∈ tn W := by
  intro b hb
  obtain ⟨i, hi, e⟩ := List.getElem_of_mem m
  have q := (turn_t gw.tra (i := i) (by rw [List.getElem?_eq_getElem hi, e])).below b hb
  obtain ⟨y, hy, e2⟩ := List.mem_map.mp q
  exact List.mem_map.mpr ⟨y, List.mem_of_mem_take hy, e2⟩
/-- the traits' names in order -/
theorem srt_tn (W : Wd) : ∃ zs : List Str, zs.Perm (tn W) ∧ (zs.map Dat.str).Pairwise fun a b => leD a b = true := by
  obtain ⟨zs, e, p⟩ := strs_of (List.mergeSort_perm ((tn W).map Dat.str) leD)
  refine ⟨zs, p, ?_⟩
  rw [← e]
  exact PySem.W.sort_pairwise leD_total _
section
variable {K : PySem.W.Frag} {w : World} {H H0 : Hp} {σ : L2.St} {ta te tb : TE} {d a0 a1 a2 : Dat} {ds es : List Dat} {D : Ends} {tz : TS}
/-- for place in seen: us = [s for s in us if s not in library[place][..]] -/
theorem loop_flt {L : List Mo} {k a b : Nat} {c : Int} {col : Mo → List Str} {us : List Str} {v1 v7 va : V} {x5 : Option V} (h1 : σ[1]? = some (some v1)) (r1 : Rp K H v1 (libD L)) (h7 : σ[7]? = some (some v7)) (r7 : Rp K H v7 (.lst ((seen L k).map natD)))
    (h5 : σ[5]? = some x5) (ha : σ[a]? = some (some va)) (rva : Rp K H va (.lst (us.map .str))) (hc : ∀ {te : TE} {σ : L2.St} {H : Hp} {m : Mo}, Evd K te σ H m.d → Evd K (tOp (rIx K) te (tC (.int c))) σ H (.tup ((col m).map .str)))
    (hb : b < σ.length) (n : a ≠ 1 ∧ a ≠ 5 ∧ a ≠ 7 ∧ b ≠ 1 ∧ b ≠ 5 ∧ b ≠ 7 ∧ b ≠ a) (len : us.length ≤ 100)
    (kk : ∀ x5 u H', Ex H H' → Rp K H' u (.lst ((us.filter fun s => !decide (s ∈ (seen L k).flatMap fun n => col (modAt L n))).map .str)) → tz D ((σ.set 5 x5).set a (some u)) H') :
    tSeq (tFor (iList K (tVar 7)) (gName 5) (tAsg (tLc (iList K (tVar a)) (gName b) (tTest (tOp (rIn K true) (tVar b) (tOp (rIx K) (tOp (rIx K) (tVar 1) (tVar 5)) (tC (.int c))))) (tVar b) [b]) (gName a))) tz D σ H := by
  obtain ⟨n1, n2, n3, n4, n5, n6, n7⟩ := n
  obtain ⟨p, xs, e7, hp, rp⟩ := rp_L r7
  subst e7
  have l5 : 5 < σ.length := (List.getElem?_eq_some_iff.mp h5).1
  have la : a < σ.length := (List.getElem?_eq_some_iff.mp ha).1
  refine d_forV (D := { D with nx := tz D }) h7 hp rp (still_nats _) (fun i σ' H' => ∃ x5 u, σ' = (σ.set 5 x5).set a (some u) ∧ Ex H H' ∧ Rp K H' u (.lst ((us.filter fun s => !decide (s ∈ ((seen L k).take i).flatMap fun n => col (modAt L n))).map .str)))
    ⟨x5, va, by rw [set_self h5, set_self ha], Ex.refl H, by rw [List.filter_eq_self.mpr (by simp)]; exact rva⟩ (fun i σ' H' ⟨_, _, _, ex, _⟩ => ex _ _ hp) ?_ ?_
  · rintro i di x σ' H' hi ⟨x5', u, rfl, ex, ru⟩ rx
    obtain ⟨m, hm, rfl⟩ := get_map hi
    have ml := seen_lt (List.mem_of_getElem? hm)
    have es : ((σ.set 5 x5').set a (some u)).set 5 (some x) = (σ.set 5 (some x)).set a (some u) := by rw [List.set_comm _ _ n2, List.set_set]
    show tAsg _ (gName a) _ (((σ.set 5 x5').set a (some u)).set 5 (some x)) H'
    rw [es]
    have g1 : ((σ.set 5 (some x)).set a (some u))[1]? = some (some v1) := by rw [List.getElem?_set_ne n1, List.getElem?_set_ne (by decide), h1]
    have g5 : ((σ.set 5 (some x)).set a (some u))[5]? = some (some x) := by rw [List.getElem?_set_ne n2, List.getElem?_set_self l5]
    have ga : ((σ.set 5 (some x)).set a (some u))[a]? = some (some u) := by rw [List.getElem?_set_self (by rw [List.length_set]; exact la)]
    have fl := List.length_filter_le (fun s => !decide (s ∈ ((seen L k).take i).flatMap fun n => col (modAt L n))) us
    have lb : b < ((σ.set 5 (some x)).set a (some u)).length := by rw [List.length_set, List.length_set]; exact hb
    refine d_set (evf_lcF Dat.str Dat.str (fun s => !decide (s ∈ col (modAt L m))) (src_lst (evd_var ga ru)) (by omega) (fun _ _ => rfl) fun s hs y H2 e2 ry => ⟨_, tgt1, wipe1, et_T (evd_niS (evd_var (slot0 lb) ry) (hc (evd_at (evd_var (slot1 g1 n4) ((r1.ex ex).ex e2)) (evd_var (slot1 g5 n5) (rx.ex e2)) (mod_at ml))) sT), fun _ => evd_var (slot0 lb) ry⟩).dd fun v H2 e2 r => ⟨Ton.of e2, some x, v, ?_, ex.trans e2, ?_⟩
    · rw [List.set_set]
    · rw [filter_snoc (c := fun n => col (modAt L n)) hm] at r
      exact r
  · rintro σ' H' ⟨x5', u, rfl, ex, ru⟩
    rw [List.length_map, List.take_length] at ru
    exact kk x5' u H' ex ru
theorem q_parF {i j : Nat} (h1 : Evf K ta σ H d) (h2 : Evf K tb σ H a0) (k : ∀ v u H1 H2, Ex H H1 → Ex H1 H2 → Rp K H1 v d → Rp K H2 u a0 → Frs H v d → Frs H1 u a0 → tz D ((σ.set i (some v)).set j (some u)) H2) :
    tSeq (tPar i j (tCons ta (tCons tb tNil))) tz D σ H := h1 H (Ex.refl H) _ fun v H1 e1 r1 f1 => h2 H1 e1 _ fun u H2 e2 r2 f2 => ⟨v, u, rfl, k v u H1 H2 e1 e2 r1 r2 f1 f2⟩
theorem rd__law_good : Keeps (sp__law_good K w) N__law_good (t__law_good K w) := by
  rintro vs H Q E ⟨ds, r, ra, ⟨W, L, gw, gn, rfl, rfl⟩, k⟩
  obtain ⟨v0, v1, rfl, r0, r1⟩ := args2 ra
  have gf := gn.toGoodF
  have l5 := gf.few
  obtain ⟨zt, pzt, wzt⟩ := srt_tn W
  have lc := flat_len Mo.cons 4 L fun m hm => by
    obtain ⟨i, hi, e⟩ := List.getElem_of_mem hm
    rw [← e]
    exact gm_con gw (gf.mods _ _ (List.getElem?_eq_getElem hi))
  have lt := flat_len Mo.traits 3 L fun m hm => by
    obtain ⟨i, hi, e⟩ := List.getElem_of_mem hm
    rw [← e]
    exact gm_tra gw (gf.mods _ _ (List.getElem?_eq_getElem hi))
  have len : ∀ {H1 : Hp} {σ : L2.St}, σ[1]? = some (some v1) → Ex H H1 → Evd K (tCB (rLenX K) (tCons (tVar 1) tNil)) σ H1 (.int (L.length : Int)) := fun h e => evd_is (evd_len (evd_var h (r1.ex e)) sT) (by rw [List.length_map])
  refine q_parF (K := K) (evf_lst eva_nil) (evf_lst eva_nil) fun v2 v3 H1 H2 e1 e2 r2 r3 _ _ => ?_
  refine q_forRD (len rfl (e1.trans e2)) (by omega) (by omega) (fun i σ' H' => ∃ (u2 u3 : V) (x4 : Option V), σ' = [some v0, some v1, some u2, some u3, x4, none, none, none, none, none, none, none, none, none, none, none, none, none, none, none, none, none] ∧ Ex H H' ∧
    Rp K H' u2 (.lst (((L.take i).flatMap Mo.cons).map .str)) ∧ Rp K H' u3 (.lst (((L.take i).flatMap Mo.traits).map .str))) (fun H3 e3 => ⟨v2, v3, none, rfl, (e1.trans e2).trans e3, (r2.ex e2).ex e3, r3.ex e3⟩) ?_ ?_
  · rintro i σ' H' hi ⟨u2, u3, x4, rfl, ex, ru2, ru3⟩
    have hi : i < L.length := by omega
    have gi : L[i]? = some L[i] := List.getElem?_eq_getElem hi
    have gm := gf.mods _ _ gi
    have il := imp_len gm.impUp gm.imp
    have c4 := gm_con gw gm
    have t3 := gm_tra gw gm
    have fc := flat_take_len Mo.cons L i
    have ft := flat_take_len Mo.traits L i
    refine q_pass (et_is (et_T (evd_neNil (ds := []) (evd_is (evf_lcF natD natD (fun n => decide ((i : Int) ≤ (n : Int))) (src_tup (ix0 (evd_at (evd_var rfl (r1.ex ex)) (evd_var rfl (.int _)) gi)) iT) (by omega) (fun _ _ => rfl) fun n hn x H3 e3 rx => ⟨_, tgt1, rfl, et_T (evd_ge (evd_var rfl rx) (evd_var rfl (.int _))), fun _ => evd_var rfl rx⟩).dd ?_) shaped_nil)) rfl) fun H3 e3 => ?_
    · rw [List.filter_eq_nil_iff.mpr]
      · rfl
      · intro n hn z
        have := gm.imp n hn
        have := of_decide_eq_true z
        omega
    have ex := ex.trans e3
    refine q_set (evf_cat (evd_var rfl (ru2.ex e3)) (evf_list (ix1 (evd_at (evd_var rfl (r1.ex ex)) (evd_var rfl (.int _)) gi)) sT).dd (by simp only [List.length_map]; omega)).dd fun w2 H4 e4 s2 => ?_
    have ex := ex.trans e4
    refine d_set (evf_cat (evd_var rfl ((ru3.ex e3).ex e4)) (evf_list (ix2 (evd_at (evd_var rfl (r1.ex ex)) (evd_var rfl (.int _)) gi)) sT).dd (by simp only [List.length_map]; omega)).dd fun w3 H5 e5 s3 => ?_
    refine ⟨w2, w3, _, rfl, ex.trans e5, ?_, ?_⟩
    · rw [flat_take _ gi, List.map_append]
      exact s2.ex e5
    · rw [flat_take _ gi, List.map_append]
      exact s3
  rintro σ' H' ⟨u2, u3, x4, rfl, ex, ru2, ru3⟩
  rw [Int.toNat_natCast, List.take_length] at ru2 ru3
  refine q_pass (or_f (neL_f (evf_sorted (evd_var rfl ru2) (alike_strs _) (sortable_strs _) (dep_strs _) (by rw [List.length_map]; omega) fun es pe we => strs_one (pe.trans (gn.con.map _)) we (cn_up gw)).dd (evf_cons gw (i := 0) (j := 6) rfl (by show 6 < 22; decide) (by decide) (r0.ex ex)).dd (shaped_strs fun s m => strOk_c (cn_in gw m)))
    (neL_f (ds := zt.map .str) (evf_sorted (evd_var rfl ru3) (alike_strs _) (sortable_strs _) (dep_strs _) (by rw [List.length_map]; omega) fun es pe we => strs_two pe (List.Perm.refl _) (gn.tra.trans pzt.symm) we wzt).dd
      (evf_sorted (evd_call (eva1 (evd_var rfl (r0.ex ex))) ⟨W, gw, rfl, rfl⟩) (alike_strs _) (sortable_strs _) (dep_strs _) (by have := tn_len gw; rw [List.length_map]; omega) fun es pe we => strs_two pe (List.Perm.refl _) pzt.symm we wzt).dd (shaped_strs fun s m => strOk_t (tn_in gw (pzt.mem_iff.mp m))))) fun H3 e3 => ?_
  have ex := ex.trans e3
  refine q_forRD (len rfl ex) (by omega) (by omega) (fun i σ' H' => ∃ x4 x5 x7 x8 x9 x10 x11 x12 x13 x15 x16 x18 x19 x20 : Option V, σ' = [some v0, some v1, some u2, some u3, x4, x5, none, x7, x8, x9, x10, x11, x12, x13, none, x15, x16, none, x18, x19, x20, none] ∧ Ex H H' ∧ (List.range i).all (known W L) = true)
    (fun H4 e4 => ⟨_, _, _, _, _, _, _, _, _, _, _, _, _, _, rfl, ex.trans e4, rfl⟩) ?_ ?_
  · rintro i σ' H4 hi ⟨x4, x5, x7, x8, x9, x10, x11, x12, x13, x15, x16, x18, x19, x20, rfl, ex, al⟩
    have hi : i < L.length := by omega
    have gm := good_at gf hi
    have gi := mod_at hi
    have no : known W L i = false → (List.range L.length).all (known W L) = false := fun h => all_no (List.mem_range.mpr hi) h
    refine q_set (evd_call (eva2 (evd_var rfl (r1.ex ex)) (evd_var rfl (.int _))) ⟨W, L, i, gf, hi, by omega, rfl, rfl⟩) fun v7 H5 e5 r7 => ?_
    have ex := ex.trans e5
    refine q_forTD (ix3 (evd_at (evd_var rfl (r1.ex ex)) (evd_var rfl (.int _)) gi)) iT (still_map still_ins _) (fun j σ' H' => ∃ x5 x8 x9 x10 x11 x12 x13 x15 x16 x18 x19 x20 : Option V, σ' = [some v0, some v1, some u2, some u3, some (.int (i : Int)), x5, none, some v7, x8, x9, x10, x11, x12, x13, none, x15, x16, none, x18, x19, x20, none] ∧ Ex H5 H' ∧
      ((modAt L i).ins.take j).all (iOk L i) = true) (fun H6 e6 => ⟨_, _, _, _, _, _, _, _, _, _, _, _, rfl, e6, rfl⟩) ?_ ?_
    · rintro j di z σ' H6 hj ⟨x5, x8, x9, x10, x11, x12, x13, x15, x16, x18, x19, x20, rfl, e6, alI⟩ rx
      obtain ⟨I, hI, rfl⟩ := get_map hj
      have mI := List.mem_of_getElem? hI
      have gI := gm.ins I mI
      obtain ⟨u8, u9, u10, u11, u12, r8, r9, r10, r11, r12, tg⟩ := tgt5 rx iT
      refine tg _ _ ?_
      have ll := lim_len gw gI
      have bl := body_len gI.b (by omega)
      have fa := gI.few
      have rl := roots_len gw gI
      have ul := used_len gw gI
      refine q_set (evf_roots gw gI (i := 9) (l := 10) (j := 14) rfl rfl (by show 14 < 22; decide) r9 r10).dd fun u13 H7 e7 r13 => ?_
      have ey := e6.trans e7
      refine loop_flt (L := L) (k := i) (col := Mo.cons) rfl (r1.ex (ex.trans ey)) rfl (r7.ex ey) rfl rfl r13 (fun h => ix1 h) (by show 15 < 22; decide) (by decide) (by omega) fun x5 w13 H8 e8 s13 => ?_
      have ey := ey.trans e8
      refine q_set (evd_is (evf_cat (evf_cat (evf_lst (eva1 (evd_var rfl (r8.ex (e7.trans e8)))) (by simp)).dd (evf_lcM askD (fun x => .str x.1) (src_tup (evd_var rfl (r11.ex (e7.trans e8))) iT) (by omega) (fun _ _ => rfl) fun y hy x H9 e9 rx => ⟨_, tgt1, rfl, ix0 (evd_var rfl rx)⟩).dd (by simp; omega)).dd
        (evf_call (eva1 (evd_var rfl (r12.ex (e7.trans e8)))) (d := .lst (I.body.asks.map fun y => .str y.1)) ?_).dd (by simp; omega)).dd (e := .lst (I.used.map .str)) (by simp [Ins.used]; rfl)) fun u16 H9 e9 r16 => ?_
      · rcases body_call gI.b (by omega) with ⟨x, h1, h2, h3, h4⟩ | ⟨x, ps, h1, h2, h3, h4⟩
        · refine .inl ⟨x, h1, h2, h3, ?_⟩
          have q := congrArg (fun d : Dat => match d with | .lst ds => ds.map (fun e : Dat => match e with | .tup (s :: _) => s | _ => .non) | _ => []) h4
          simp only [List.map_map] at q
          exact congrArg Dat.lst q
        · refine .inr ⟨x, ps, h1, h2, h3, ?_⟩
          have q := congrArg (fun d : Dat => match d with | .lst ds => ds.map (fun e : Dat => match e with | .tup (s :: _) => s | _ => .non) | _ => []) h4
          simp only [List.map_map] at q
          exact congrArg Dat.lst q
      have ey := ey.trans e9
      refine loop_flt (L := L) (k := i) (col := Mo.traits) rfl (r1.ex (ex.trans ey)) rfl (r7.ex ey) rfl rfl r16 (fun h => ix2 h) (by show 15 < 22; decide) (by decide) (by omega) fun x5 w16 H10 e10 s16 => ?_
      have ey := ey.trans e10
      have f1 := List.length_filter_le (fun s => !decide (s ∈ consSeen L i)) I.roots
      have f2 := List.length_filter_le (fun s => !decide (s ∈ traitsSeen L i)) I.used
      have s13 : Rp K H8 w13 (.lst ((I.roots.filter fun s => !decide (s ∈ consSeen L i)).map .str)) := s13
      have s16 : Rp K H10 w16 (.lst ((I.used.filter fun s => !decide (s ∈ traitsSeen L i)).map .str)) := s16
      refine d_when (b := !iOk L i I) (et_is (et_T (evd_neNil (ds := ((I.roots.filter fun s => !decide (s ∈ consSeen L i)) ++ (I.used.filter fun s => !decide (s ∈ traitsSeen L i))).map .str) (evd_is (evf_cat (evd_var rfl (s13.ex (e9.trans e10))) (evd_var rfl s16) (by simp only [List.length_map]; omega)).dd (by rw [List.map_append])) (shaped_strs fun s m => ?_))) ?_) (fun hb H11 e11 => ?_) fun hb H11 e11 => ?_
      · rcases List.mem_append.mp m with m | m
        · exact strOk_c (cn_in gw (roots_in gI s (List.mem_filter.mp m).1))
        · exact strOk_t (tn_in gw (used_in gI s (List.mem_filter.mp m).1))
      · unfold iOk
        rw [← empty_filter, ← empty_filter]
        rw [List.isEmpty_map, empty_app]
      · refine d_ret (evf (d := .bl (allKnown W L)) (evd_is evd_bl ?_)) ((ex.trans ey).trans e11) k
        rw [Bool.not_eq_true'] at hb
        have kf : known W L i = false := by
          unfold known
          rw [knownI_eq, all_no mI hb, Bool.and_false]
        rw [show allKnown W L = false from no kf]
      · rw [Bool.not_eq_false'] at hb
        exact ⟨Ton.of (((((e7.trans e8).trans e9).trans e10)).trans e11), _, _, _, _, _, _, _, _, _, _, _, _, rfl, ey.trans e11, by rw [all_take hI alI, hb]⟩
    rintro σ' H6 ⟨x5, x8, x9, x10, x11, x12, x13, x15, x16, x18, x19, x20, rfl, e6, alI⟩
    rw [List.length_map, List.take_length, ← knownI_eq] at alI
    have ex := ex.trans e6
    have r7 := r7.ex e6
    refine d_forT (ix1 (evd_var rfl (r0.ex ex))) iT (still_traits _) (fun j σ' H' => ∃ x5 x15 x18 x19 x20 : Option V, σ' = [some v0, some v1, some u2, some u3, some (.int (i : Int)), x5, none, some v7, x8, x9, x10, x11, x12, x13, none, x15, x16, none, x18, x19, x20, none] ∧ Ex H6 H' ∧
      (W.traits.take j).all (tOk L i) = true) (fun H7 e7 => ⟨_, _, _, _, _, rfl, e7, rfl⟩) ?_ ?_
    · rintro j di z σ' H7 hj ⟨x5, x15, x18, x19, x20, rfl, e7, alT⟩ rx
      obtain ⟨t, ht, rfl⟩ := get_map hj
      have mt := List.mem_of_getElem? ht
      obtain ⟨u15, u18, u19, r15, r18, r19, tg⟩ := tgt3 rx iT
      refine tg _ _ ?_
      have bl := gt_below gw.tra t mt
      have er : ∀ c : Bool, Dat.lst ((if c = true then t.2.2 else []).map .str) = if c = true then .lst (t.2.2.map .str) else .lst [] := fun c => by cases c <;> rfl
      refine q_set (evd_ifE (d := .lst ((if decide (t.1 ∈ (modAt L i).traits) = true then t.2.2 else []).map .str)) (et_T (evd_inS (evd_var rfl r15) (ix2 (evd_at (evd_var rfl (r1.ex (ex.trans e7))) (evd_var rfl (.int _)) gi)) sT)) (fun h => by rw [if_pos h]; exact (evf_list (evd_var rfl r19) sT).dd) fun h => by
        rw [if_neg (by rw [h]; decide)]
        exact (evf_lst eva_nil).dd) fun u20 H8 e8 r20 => ?_
      have ey := e7.trans e8
      refine loop_flt (L := L) (k := i) (col := Mo.traits) rfl (r1.ex (ex.trans ey)) rfl (r7.ex ey) rfl rfl r20 (fun h => ix2 h) (by show 21 < 22; decide) (by decide) (by split <;> first | omega | exact Nat.zero_le _) fun x5 w20 H9 e9 s20 => ?_
      have ey := ey.trans e9
      have s20 : Rp K H9 w20 (.lst (((if decide (t.1 ∈ (modAt L i).traits) = true then t.2.2 else []).filter fun s => !decide (s ∈ traitsSeen L i)).map .str)) := s20
      refine d_when (b := !tOk L i t) (et_is (et_T (evd_neNil (evd_var rfl s20) (shaped_strs fun s m => ?_))) ?_) (fun hb H10 e10 => ?_) fun hb H10 e10 => ?_
      · have m := (List.mem_filter.mp m).1
        split at m
        · exact strOk_t (tn_in gw (below_in gw mt s m))
        · simp at m
      · rw [List.isEmpty_map, empty_filter]
        unfold tOk
        cases decide (t.1 ∈ (modAt L i).traits) <;> rfl
      · refine d_ret (evf (d := .bl (allKnown W L)) (evd_is evd_bl ?_)) ((ex.trans ey).trans e10) k
        rw [Bool.not_eq_true'] at hb
        have kf : known W L i = false := by
          unfold known
          rw [knownT_eq, all_no mt hb, Bool.false_and]
        rw [show allKnown W L = false from no kf]
      · rw [Bool.not_eq_false'] at hb
        exact ⟨Ton.of ((e8.trans e9).trans e10), _, _, _, _, _, rfl, ey.trans e10, by rw [all_take ht alT, hb]⟩
    · rintro σ' H7 ⟨x5, x15, x18, x19, x20, rfl, e7, alT⟩
      rw [List.length_map, List.take_length, ← knownT_eq] at alT
      refine ⟨_, _, _, _, _, _, _, _, _, _, _, _, _, _, rfl, ex.trans e7, ?_⟩
      rw [List.range_succ, List.all_append, al]
      unfold known
      simp [alT, alI]
  · rintro σ' H4 ⟨x4, x5, x7, x8, x9, x10, x11, x12, x13, x15, x16, x18, x19, x20, rfl, ex, al⟩
    rw [Int.toNat_natCast] at al
    exact d_ret (evf (d := .bl (allKnown W L)) (evd_is evd_bl (by rw [show allKnown W L = true from al]))) ex k
end
end Lib

/-! defs that draw: the town's list changes, nothing else does -/
namespace Lib
open PySem L2 PySem.Spec PyProof.Rows Evl
def Town (t : Addr) (k n : Nat) (H : Hp) : Prop := ∃ (m : Nat) (ms : List Int), m ≤ n ∧ H t = some (.lst (.int (m : Nat) :: ms.map V.int)) ∧ ms.length = k
/-- from H to H' at most n draws in all -/
structure Run (K : PySem.W.Frag) (a t : Addr) (ns : List Int) (H : Hp) (n : Nat) (H' : Hp) : Prop where
  scr : SqL K H a (ns.map V.int)
  few : ns.length ≤ 63
  was : ∃ m, Town t ns.length m H
  chg : Chg t H H'
  now : Town t ns.length n H'
section
variable {K : PySem.W.Frag} {w : World} {a t p : Addr} {ns : List Int} {n m c : Nat} {H H' H0 H1 H2 : Hp} {σ : L2.St} {ta : TA} {tb te tl tm : TE} {d : Dat} {ds xs : List Dat} {D : Ends} {tz tu : TS} {g : TG} {tt : TT} {Q : VK}
theorem town_ne {k : Nat} (h : Town t k n H) (hp : H p = none) : p ≠ t := fun e => by
  obtain ⟨m, ms, _, q, _⟩ := h
  subst e
  rw [q] at hp
  cases hp
theorem sql_chg (was : Town t ns.length m H) (scr : SqL K H a (ns.map V.int)) (chg : Chg t H H') : SqL K H' a (ns.map V.int) := by
  obtain ⟨k, ms, _, q, l⟩ := was
  rcases scr with (h | ⟨o, h⟩) | h
  · refine .inl (.inl (chg _ _ h fun e => ?_))
    subst e
    rw [h] at q
    have z := congrArg List.length (HO.lst.inj (Option.some.inj q))
    rw [List.length_cons, List.length_map, List.length_map] at z
    omega
  · refine .inl (.inr ⟨o, chg _ _ h fun e => ?_⟩)
    subst e
    rw [h] at q
    cases q
  · exact .inr h
theorem Run.tw (r : Run K a t ns H n H') : Tw K a t ns n H' := by
  obtain ⟨k, w⟩ := r.was
  exact ⟨sql_chg w r.scr r.chg, r.now, r.few⟩
theorem Run.start (h : Tw K a t ns n H) : Run K a t ns H n H := ⟨h.scr, h.few, ⟨n, h.town⟩, Chg.refl H, h.town⟩
theorem Run.ex (r : Run K a t ns H n H1) (e : Ex H1 H2) : Run K a t ns H n H2 := ⟨r.scr, r.few, r.was, r.chg.trans (Chg.of e), by
  obtain ⟨m, ms, h1, h2, h3⟩ := r.now
  exact ⟨m, ms, h1, e _ _ h2, h3⟩⟩
theorem Run.to (r : Run K a t ns H n H1) (c : Chg t H1 H2) (h : Tw K a t ns m H2) : Run K a t ns H m H2 := ⟨r.scr, r.few, r.was, r.chg.trans c, h.town⟩
theorem Run.back (r : Run K a t ns H n H1) (hp : H1 p = none) : H p = none := by
  have ne := town_ne r.now hp
  cases q : H p with
  | none => rfl
  | some o =>
    have := r.chg _ _ q ne
    rw [this] at hp
    cases hp
theorem Run.mut (r : Run K a t ns H n H1) (hp : H p = none) {o : HO} : Run K a t ns H n (upd H1 p o) := by
  obtain ⟨k, w⟩ := r.was
  have ne := town_ne w hp
  refine ⟨r.scr, r.few, r.was, fun b u hb nb => ?_, ?_⟩
  · have nb' : b ≠ p := fun e => by
      subst e
      rw [hb] at hp
      cases hp
    rw [upd_ne nb']
    exact r.chg _ _ hb nb
  · obtain ⟨m, ms, h1, h2, h3⟩ := r.now
    exact ⟨m, ms, h1, by rw [upd_ne (Ne.symm ne)]; exact h2, h3⟩
theorem Run.mono (r : Run K a t ns H n H1) (h : n ≤ m) : Run K a t ns H m H1 := ⟨r.scr, r.few, r.was, r.chg, by
  obtain ⟨k, ms, h1, h2, h3⟩ := r.now
  exact ⟨k, ms, Nat.le_trans h1 h, h2, h3⟩⟩
theorem Run.tonC (r : Run K a t ns H n H1) (c : Chg t H1 H2) : Ton H1 H2 := by
  obtain ⟨m, ms, _, h2, _⟩ := r.now
  exact Ton.chg h2 c
theorem Run.ton (r : Run K a t ns H n H1) : Ton H H1 := by
  obtain ⟨m, k, ms, _, h2, _⟩ := r.was
  exact Ton.chg h2 r.chg
theorem Chg.mut {o : HO} (c : Chg t H H1) (hp : H p = none) : Chg t H (upd H1 p o) := fun b u hb nb => by
  have nb' : b ≠ p := fun e => by
    subst e
    rw [hb] at hp
    cases hp
  rw [upd_ne nb']
  exact c _ _ hb nb
/-- arguments, none of them the town's list -/
def EvN (K : PySem.W.Frag) (ta : TA) (σ : L2.St) (H : Hp) (t : Addr) (ds : List Dat) : Prop := ∀ Q : List V → Hp → Prop, (∀ vs H1, Ex H H1 → RpAll K H1 vs ds → (∀ xs, ds = [.lst xs] → vs ≠ [.ref t]) → Q vs H1) → ta σ H Q
theorem evn_of (h : EvdA K ta σ H ds) (no : ∀ d, d ∈ ds → d.isL = false := by decide) : EvN K ta σ H t ds := fun Q k => h H (Ex.refl H) Q fun vs H1 e r => k vs H1 e r fun xs z => by
  subst z
  have := no (.lst xs) (by simp)
  cases this
theorem evn_lst {k : Nat} (h : Evf K te σ H (.lst xs)) (ht : Town t k n H) : EvN K (tCons te tNil) σ H t [.lst xs] := fun Q q => h H (Ex.refl H) _ fun v H1 e r f => q [v] H1 e (.cons r .nil) fun ys z => by
  obtain ⟨p, e1, e2⟩ := f _ rfl
  subst e1
  intro e3
  have ne := town_ne ht e2
  exact ne (by cases e3; rfl)
theorem evn_var {i : Nat} (hv : σ[i]? = some (some (.ref p))) (r : Rp K H (.ref p) (.lst xs)) (ne : p ≠ t) : EvN K (tCons (tVar i) tNil) σ H t [.lst xs] := fun Q q => ⟨_, hv, q [.ref p] H (Ex.refl H) (.cons r .nil) fun ys z e => ne (by cases e; rfl)⟩
theorem imp_call {R : List Dat → Nat → (Dat → Prop) → Prop} {P : Dat → Prop} {E : XK} (h0 : σ[0]? = some (some (.ref a))) (h1 : σ[1]? = some (some (.ref t))) (rn : Run K a t ns H0 n H) (ha : EvN K ta σ H t ds) (hr : R ds c P) (hn : n + c ≤ 100000)
    (k : ∀ v H2 d, P d → Rp K H2 v d → Frs H v d → Chg t H H2 → Run K a t ns H0 (n + c) H2 → Q v H2) : tCall (ImpSp K R) [] E (tCons (tVar 0) (tCons (tVar 1) ta)) σ H Q := by
  refine ⟨_, h0, _, h1, ha _ fun vs H1 e r nt => ?_⟩
  show ImpSp K R ((.ref a :: .ref t :: vs) ++ []) H1 Q E
  rw [List.append_nil]
  exact ⟨a, t, ns, n, vs, ds, c, P, rfl, (rn.ex e).tw, r, nt, hr, hn, fun v H2 d hd rd f cg tw => k v H2 d hd rd (f.back e) ((Chg.of e).trans cg) ((rn.ex e).to cg tw)⟩
theorem imp_draw {M : Int} {E : XK} (h0 : σ[0]? = some (some (.ref a))) (h1 : σ[1]? = some (some (.ref t))) (rn : Run K a t ns H0 n H) (hm : Evd K tm σ H (.int M)) (m0 : 0 < M) (m1 : M ≤ 1000) (hn : n + 1 ≤ 100000)
    (k : ∀ (r : Int) H2, 0 ≤ r → r < M → Chg t H H2 → Run K a t ns H0 (n + 1) H2 → Q (.int r) H2) : tCall (sp__law_draw K w) [] E (tCons (tVar 0) (tCons (tVar 1) (tCons tm tNil))) σ H Q :=
  imp_call h0 h1 rn (evn_of (eva1 hm) (by simp [Dat.isL])) ⟨M, m0, m1, rfl, rfl, rfl⟩ hn fun v H2 d hd rd f cg rn' => by
    obtain ⟨r, r0, r1, rfl⟩ := hd
    rw [rp_int rd]
    exact k r H2 r0 r1 cg rn'
theorem imp_pick {E : XK} (h0 : σ[0]? = some (some (.ref a))) (h1 : σ[1]? = some (some (.ref t))) (rn : Run K a t ns H0 n H) (hx : EvN K (tCons tm tNil) σ H t [.lst xs]) (ne : xs ≠ []) (len : xs.length ≤ 1000) (st : stillAll xs = true) (hn : n + 1 ≤ 100000)
    (k : ∀ v H2 d, d ∈ xs → Rp K H2 v d → Chg t H H2 → Run K a t ns H0 (n + 1) H2 → Q v H2) : tCall (sp__law_pick K w) [] E (tCons (tVar 0) (tCons (tVar 1) (tCons tm tNil))) σ H Q :=
  imp_call h0 h1 rn hx ⟨xs, ne, len, st, rfl, rfl, rfl⟩ hn fun v H2 d hd rd f cg rn' => k v H2 d hd rd cg rn'
/-- a draw's test against 0 -/
theorem imp_zero {M : Int} {E : XK} {R : Bool → Hp → Prop} (h0 : σ[0]? = some (some (.ref a))) (h1 : σ[1]? = some (some (.ref t))) (rn : Run K a t ns H0 n H) (hm : Evd K tm σ H (.int M)) (m0 : 0 < M) (m1 : M ≤ 1000) (hn : n + 1 ≤ 100000)
    (k : ∀ b H2, Chg t H H2 → Run K a t ns H0 (n + 1) H2 → R b H2) : tTest (tOp (rEqX K) (tCall (sp__law_draw K w) [] E (tCons (tVar 0) (tCons (tVar 1) (tCons tm tNil)))) (tC (.int 0))) σ H R :=
  imp_draw h0 h1 rn hm m0 m1 hn fun r H2 _ _ cg rn' => .inl ⟨rfl, _, rfl, k _ H2 cg rn'⟩
/-- xs.append(e), xs a list of the def's own, e by draws -/
theorem imp_app {i : Nat} {ys : List V} (hi : σ[i]? = some (some (.ref p))) (hp : H p = some (.lst ys)) (len : ys.length < 1000) (h : te σ H fun v H1 => H1 p = some (.lst ys) ∧ D.nx σ (upd H1 p (.lst (ys ++ [v]))))
    (mono : ∀ R R' : VK, (∀ v H, R v H → R' v H) → te σ H R → te σ H R') : tDrop (tBM K "list" rAppend (tVar i) (tCons te tNil)) D σ H :=
  ⟨_, hi, Or.inl ⟨rfl, ys, SqL.of hp⟩, mono _ _ (fun v H1 q => ⟨p, ys, v, rfl, rfl, q.1, by have := big16; omega, q.2⟩) h⟩
/-- a comprehension whose turns draw: at most c draws each turn -/
theorem lc_imp {J : It} {N : Nat} {Y : Nat → Hp → V → Hp → Prop} {vs : List Nat} (wk : Walk J N (fun H' => Chg t H2 H') Y) (rn : Run K a t ns H0 n H2) (I : Nat → List Dat → Prop) (c : Nat) (i0 : I 0 []) (few : N ≤ 1000) (sl : ∀ i es, I i es → stillAll es = true ∧ es.length ≤ i)
    (hs : ∀ i x Ha Hb es (R1 : V → Hp → Prop) (R2 : Hp → Prop), i < N → I i es → Chg t H2 Ha → Y i Ha x Hb → Run K a t ns H0 (n + i * c) Ha →
      (∀ y He d, d.still = true → Rp K He y d → Chg t Ha He → Run K a t ns H0 (n + (i + 1) * c) He → I (i + 1) (es ++ [d]) → R1 y He) → (∀ Hd, Chg t Ha Hd → Run K a t ns H0 (n + (i + 1) * c) Hd → I (i + 1) es → R2 Hd) →
      g x (wipe σ vs) Hb fun σ2 Hc => wipe σ2 vs = wipe σ vs ∧ tt σ2 Hc fun b Hd => if b = true then te σ2 Hd R1 else R2 Hd)
    (k : ∀ p H' es, H2 p = none → Rp K H' (.ref p) (.lst es) → I N es → Chg t H2 H' → Run K a t ns H0 (n + N * c) H' → Q (.ref p) H') :
    ∀ D, H2 D = none → ∃ W : Nat → Nat → Hp → Prop, (∃ m, W 0 m (upd H2 D (.lst []))) ∧ ∀ i m H, W i m H →
      (J.stop i H ∧ Q (.ref D) H) ∨ (J.go i H ∧ ∃ Nx : Hp → Prop, (∀ H', Nx H' → ∃ m', m' < m ∧ W (i + 1) m' H') ∧ ∀ x H', J.yld i H x H' → g x (wipe σ vs) H' fun σ2 H2 => wipe σ2 vs = wipe σ vs ∧ tt σ2 H2 fun b H3 =>
        if b = true then te σ2 H3 fun y H4 => ∃ acc, H4 D = some (.lst acc) ∧ acc.length < sizeLine ∧ Nx (upd H4 D (.lst (acc ++ [y]))) else Nx H3) := fun D hD => by
  have nD : D ≠ t := town_ne rn.now hD
  have bD : H0 D = none := rn.back hD
  refine lc_it wk (fun i H' => Chg t H2 H' ∧ Run K a t ns H0 (n + i * c) H' ∧ ∃ acc es, H' D = some (.lst acc) ∧ RpAll K H' acc es ∧ I i es) ⟨Chg.of (Ex.new hD), by rw [Nat.zero_mul]; exact rn.ex (Ex.new hD), [], [], upd_same, .nil, i0⟩ (fun i H' _ p => p.1) ?_ ?_
  · rintro i x Ha Hb hi ⟨cg, rn', acc, es, hacc, racc, ie⟩ y
    refine hs i x Ha Hb es _ _ hi ie cg y rn' (fun v He d sd rv ca rn2 ie' => ?_) fun Hd ca rn2 ie' => ?_
    · have hacc' := ca _ _ hacc nD
      have la := rpAll_len racc
      have le := (sl i es ie).2
      have big := big16
      refine ⟨acc, hacc', by omega, Chg.mut (cg.trans ca) hD, rn2.mut bD, acc ++ [v], es ++ [d], upd_same, ?_, ie'⟩
      have tn : Ton Ha (upd He D (.lst (acc ++ [v]))) := Ton.upd (rn'.tonC ca) hacc'
      exact rpAll_app (racc.ton tn (sl i es ie).1) (.cons (rv.ton (Ton.upd (Ton.refl He) hacc') sd) .nil)
    · exact ⟨cg.trans ca, rn2, acc, es, ca _ _ hacc nD, racc.ton (rn'.tonC ca) (sl i es ie).1, ie'⟩
  · rintro H' ⟨cg, rn', acc, es, hacc, racc, ie⟩
    exact k D H' es hD (.lst hacc racc) ie cg rn'
theorem walk_rangeG {N : Nat} {G : Hp → Prop} : Walk (Itr 0 N) N G (fun i Ha x Hb => Hb = Ha ∧ x = .int (i : Nat)) := walk_range.mono (fun _ _ => trivial) fun i Ha x Hb _ _ y => ⟨y.1, y.2.trans (congrArg V.int (Int.zero_add _))⟩
theorem walk_listG {ys : List V} (hp : H2 p = some (.lst ys)) (ne : p ≠ t) : Walk (Itl K p) ys.length (fun H' => Chg t H2 H') (YAt ys) := walk_list.mono (fun H' c => SqL.of (c _ _ hp ne)) fun i Ha x Hb _ _ y => y
/-- a loop over the list at p -/
theorem d_forP {ys : List V} (ha : H p = some (.lst ys)) (ra : RpAll K H ys ds) (st : stillAll ds = true) (Pv : Nat → L2.St → Hp → Prop) (h0 : Pv 0 σ H)
    (hl : ∀ (i : Nat) σ' H', Pv i σ' H' → H' p = some (.lst ys))
    (hs : ∀ (i : Nat) di x σ' H', ds[i]? = some di → Pv i σ' H' → Rp K H' x di → g x σ' H' fun σ2 H2 =>
      tu { D with nx := fun σ3 H3 => Ton H' H3 ∧ Pv (i + 1) σ3 H3, ct := fun σ3 H3 => Ton H' H3 ∧ Pv (i + 1) σ3 H3, bk := D.nx } σ2 H2)
    (hd : ∀ σ' H', Pv ds.length σ' H' → D.nx σ' H') : tFor (iList K fun _ H Q => Q (.ref p) H) g tu D σ H := by
  refine ⟨p, rfl, ⟨ys, SqL.of ha⟩, ?_⟩
  refine ⟨fun i m σ' H' => m = ys.length - i ∧ i ≤ ys.length ∧ Ton H H' ∧ Pv i σ' H', ⟨ys.length, by simp, Nat.zero_le _, Ton.refl _, h0⟩, ?_⟩
  rintro i m σ' Ha ⟨rfl, hi, ton, q⟩
  have q' : SqL K Ha p ys := SqL.of (hl i σ' Ha q)
  by_cases hlt : i < ys.length
  · refine .inr ⟨⟨ys, ys[i], q', List.getElem?_eq_getElem hlt⟩, fun σ3 H3 => Ton Ha H3 ∧ Pv (i + 1) σ3 H3, fun σ3 H3 ⟨t3, p3⟩ => ⟨ys.length - (i + 1), by omega, rfl, hlt, ton.trans t3, p3⟩, fun x Hb y => ?_⟩
    obtain ⟨eb, y⟩ := y
    subst eb
    obtain ⟨di, h1, h2⟩ := rpAll_get ra (y ys q')
    exact hs i di x σ' _ h1 q (h2.ton ton (still_mem st (List.mem_of_getElem? h1)))
  · have e : i = ys.length := by omega
    subst e
    rw [rpAll_len ra] at q
    exact .inl ⟨⟨ys, q', Nat.le_refl _⟩, hd _ _ q⟩
theorem evd_mul {i j : Int} (h1 : Evd K te σ H (.int i)) (h2 : Evd K tb σ H (.int j)) (c : CMul i j) : Evd K (tOp rTimes te tb) σ H (.int (i * j)) := evd_opC h1 h2 c fun _ => .int _
theorem evd_fdiv {i j : Int} (h1 : Evd K te σ H (.int i)) (h2 : Evd K tb σ H (.int j)) (c : 0 < j) (c2 : j < 1073741824) : Evd K (tOp rFdiv te tb) σ H (.int (i / j)) := evd_opC h1 h2 ⟨c, c2⟩ fun _ => .int _
theorem evd_mod {i j : Int} (h1 : Evd K te σ H (.int i)) (h2 : Evd K tb σ H (.int j)) (c : 0 < j) : Evd K (tOp rMod te tb) σ H (.int (i % j)) := evd_opC h1 h2 c fun _ => .int _
theorem evd_pow {i : Int} {j : Nat} (h1 : Evd K te σ H (.int i)) (h2 : Evd K tb σ H (.int (j : Nat))) (c : j ≤ 1000) (c2 : i.natAbs < 2 ^ 64) : Evd K (tOp rPow te tb) σ H (.int (i ^ j)) := evd_opC h1 h2 ⟨by omega, by omega, c2⟩ fun _ => .int _
end
end Lib

namespace Lib
open PySem L2 PySem.Spec PyProof.Rows Evl
section
variable {K : PySem.W.Frag} {w : World} {a t p : Addr} {ns : List Int} {n m c : Nat} {H H' H0 H1 H2 : Hp} {σ : L2.St} {ta : TA} {tb te tl tm tj : TE} {d : Dat} {ds xs : List Dat} {D : Ends} {tz tu : TS} {g : TG} {tt : TT} {Q : VK}
/-! ### the script as it is given -/
theorem evd_scrE {i : Nat} (hi : σ[i]? = some (some (.ref a))) (h : SqL K H a (ns.map V.int)) : Evd K (tOp (rEqX K) (tVar i) (tLst tNil)) σ H (.bl ns.isEmpty) := fun H1 x Q q => ⟨_, hi, (evf_lst (K := K) eva_nil) H1 x _ fun v H2 e2 r f => by
  have d1 : Dp K H2 (.ref a) (Dat.lst (ns.map .int)).out := by
    rw [Dat.out]
    exact .lst (ex_l (x.trans e2) h) (RpAll.dp _ _ (ints_rpAll ns))
  refine .inr ⟨_, _, d1, Rp.dp _ _ r, shaped_ints ns, shaped_nil, ?_⟩
  rw [eqv_nil, List.isEmpty_map]
  exact q _ H2 e2 (.bl _)⟩
theorem evd_scrL {i : Nat} (hi : σ[i]? = some (some (.ref a))) (h : SqL K H a (ns.map V.int)) : Evd K (tCB (rLenX K) (tCons (tVar i) tNil)) σ H (.int (ns.length : Int)) := fun H1 x Q q => ⟨_, hi, .inl ⟨a, ns.map V.int, rfl, .inl (ex_l x h), by
  rw [List.length_map]
  exact q _ H1 (Ex.refl H1) (.int _)⟩⟩
theorem evd_scrI {i j : Nat} {z : Int} (hi : σ[i]? = some (some (.ref a))) (h : SqL K H a (ns.map V.int)) (h2 : Evd K tb σ H (.int (j : Nat))) (e : ns[j]? = some z) : Evd K (tOp (rIx K) (tVar i) tb) σ H (.int z) := fun H1 x Q q => ⟨_, hi, h2 H1 x _ fun y H2 e2 ry => by
  have hn : j < (ns.map V.int).length := by
    rw [List.length_map]
    exact (List.getElem?_eq_some_iff.mp e).1
  have at' : atI (ns.map V.int) ((j : Nat) : Int) = some (.int z) := by
    unfold atI
    rw [Evl.ixN_nat hn]
    show (ns.map V.int)[j]? = _
    rw [List.getElem?_map, e]
    rfl
  exact .inl ⟨a, _, _, _, rfl, rp_int ry, ex_l (x.trans e2) h, at', q _ H2 e2 (.int z)⟩⟩
theorem evf_scrC {i : Nat} (hi : σ[i]? = some (some (.ref a))) (h : SqL K H a (ns.map V.int)) : Evf K (tCB (rListX K) (tCons (tVar i) tNil)) σ H (.lst (ns.map .int)) := fun H1 x Q q => ⟨_, hi, a, _, rfl, .inl (ex_l x h), fun p hp => q _ _ (Ex.new hp) (.lst upd_same (ints_rpAll ns)) (frs_new hp)⟩
theorem rd__law_town : Keeps (sp__law_town K w) N__law_town (t__law_town K w) := by
  rintro vs H Q E ⟨a, ns, rfl, scr, few, k⟩
  refine d_ret (evf_cat (evf_lst (eva1 evd_int) (by simp)).dd (evf_scrC rfl scr).dd (by simp; omega)) (Ex.refl H) fun v H' e r f => ?_
  obtain ⟨p, rfl, fp⟩ := f _ rfl
  obtain ⟨_, xs, ep, hp, rp⟩ := rp_L r
  cases ep
  refine k p H' fp e ⟨ex_l e scr, ⟨0, ns, Nat.le_refl _, ?_, rfl⟩, few⟩
  have q : RpAll K H' xs ((0 :: ns).map .int) := rp
  rw [rpAll_ints q] at hp
  exact hp
/-! ### one draw -/
/-- xs[j] = x -/
theorem q_setIx {i : Nat} {p : Addr} {ys : List V} {x : Int} {j : Nat} (hi : σ[i]? = some (some (.ref p))) (hp : H p = some (.lst ys)) (h : Evd K te σ H (.int x)) (h2 : Evd K tj σ H (.int (j : Nat))) (lj : j < ys.length)
    (k : ∀ H1, Ex H H1 → tz D σ (upd H1 p (.lst (ys.set j (.int x))))) : tSeq (tAsg te (gSub (tVar i) tj rSetL)) tz D σ H := h.go fun v H1 e1 r => ⟨_, hi, h2 H1 e1 _ fun y H2 e2 ry =>
    ⟨p, ys, (j : Nat), j, rfl, rp_int ry, e2 _ _ (e1 _ _ hp), Evl.ixN_nat lj, by rw [rp_int r]; exact k H2 (e1.trans e2)⟩⟩
theorem Chg.own {o : HO} (e : Ex H H1) : Chg t H (upd H1 t o) := fun b u hb nb => by
  rw [upd_ne nb]
  exact e _ _ hb
theorem rd__law_draw : Keeps (sp__law_draw K w) N__law_draw (t__law_draw K w) := by
  rintro vs H Q E ⟨a, t, ns, n, vs', ds, c, P, rfl, tw, ra, _, ⟨M, m0, m1, rfl, rfl, rfl⟩, hn, k⟩
  obtain ⟨v2, rfl, r2⟩ := args1 ra
  obtain ⟨scr, ⟨m, ms, hm, ht, lm⟩, few⟩ := tw
  have was : Town t ns.length n H := ⟨m, ms, hm, ht, lm⟩
  have rt : Rp K H (.ref t) (.lst (((m : Int) :: ms).map .int)) := .lst ht (ints_rpAll ((m : Int) :: ms))
  refine q_setIx (j := 0) (x := (m : Int) + 1) rfl ht (evd_add (evd_ix 0 (evd_var rfl rt) evd_int sL rfl rfl) evd_int) evd_int (by simp) fun H1 e1 => ?_
  have tn1 : Chg t H (upd H1 t (.lst ((.int (m : Nat) :: ms.map V.int).set 0 (.int ((m : Int) + 1))))) := Chg.own e1
  have rt1 : Rp K (upd H1 t (.lst ((.int (m : Nat) :: ms.map V.int).set 0 (.int ((m : Int) + 1))))) (.ref t) (.lst ((((m + 1 : Nat) : Int) :: ms).map .int)) := .lst upd_same (ints_rpAll (((m + 1 : Nat) : Int) :: ms))
  have ht1 : (upd H1 t (.lst ((.int (m : Nat) :: ms.map V.int).set 0 (.int ((m : Int) + 1))))) t = some (.lst ((((m + 1 : Nat) : Int) :: ms).map V.int)) := upd_same
  revert tn1 rt1 ht1
  generalize upd H1 t (.lst ((.int (m : Nat) :: ms.map V.int).set 0 (.int ((m : Int) + 1)))) = G
  intro cg rt1 ht1
  have scr1 := sql_chg was scr cg
  have r2 := rp_int r2
  subst r2
  have fin : ∀ (x : Int) H' (ms' : List Int), Chg t H H' → H' t = some (.lst ((((m + 1 : Nat) : Int) :: ms').map V.int)) → ms'.length = ns.length → Q (.int (x % M)) H' := fun x H' ms' c h l => k _ H' (.int (x % M)) ⟨x % M, Int.emod_nonneg _ (by omega), Int.emod_lt_of_pos _ m0, rfl⟩ (.int _) (frs_not rfl) c ⟨sql_chg was scr c, ⟨m + 1, ms', by omega, h, l⟩, few⟩
  have T0 : ∀ {σ : L2.St} {H2 : Hp}, σ[1]? = some (some (.ref t)) → Ex G H2 → Evd K (tOp (rIx K) (tVar 1) (tC (.int 0))) σ H2 (.int ((m + 1 : Nat) : Int)) := fun h e => evd_ix 0 (evd_var h (rt1.ex e)) evd_int sL rfl rfl
  refine q_when (b := ns.isEmpty) (et_T (evd_scrE rfl scr1)) (fun hb H2 e2 => ?_) fun hb H2 e2 => ?_
  · refine (evd_mod (evd_fdiv (evd_mul (evd_mul (T0 rfl e2) (T0 rfl e2) (.inl ⟨by omega, by omega⟩)) evd_int (.inr ⟨by decide, by decide⟩)) evd_int (by decide) (by decide)) (evd_var rfl (.int M)) m0).go fun v H3 e3 r => ?_
    rw [rp_int r]
    exact fin _ H3 ms (cg.trans (Chg.of (e2.trans e3))) ((e2.trans e3) _ _ ht1) lm
  have ln : 0 < ns.length := by
    cases ns with
    | nil => cases hb
    | cons _ _ => simp
  have ln' : (0 : Int) < (ns.length : Int) := by omega
  refine q_set (evd_mod (T0 rfl e2) (evd_scrL rfl (ex_l e2 scr1)) ln') fun v3 H3 e3 r3 => ?_
  have a0 := Int.emod_nonneg ((m + 1 : Nat) : Int) (b := (ns.length : Int)) (by omega)
  have a1 := Int.emod_lt_of_pos ((m + 1 : Nat) : Int) ln'
  revert r3 a0 a1
  generalize ((m + 1 : Nat) : Int) % (ns.length : Int) = z
  intro r3 a0 a1
  obtain ⟨j, rfl⟩ := Int.eq_ofNat_of_zero_le a0
  have hj : j < ns.length := by omega
  have hj' : j < ms.length := by omega
  have ex := e2.trans e3
  refine q_set (evd_ix (x := .int ms[j]) (j + 1) (evd_var rfl (rt1.ex ex)) (evd_add evd_int (evd_var rfl r3)) sL (by omega) (by simp [List.getElem?_eq_getElem hj'])) fun v4 H4 e4 r4 => ?_
  have ex := ex.trans e4
  have r3 := r3.ex e4
  have nj : ns[j]? = some ns[j] := List.getElem?_eq_getElem hj
  refine q_when (et_and (et_T (evd_ge (evd_scrI rfl (ex_l ex scr1) (evd_var rfl r3) nj) (evd_pow (j := 18) evd_int evd_int (by decide) (by decide)))) fun _ => et_T (evd_gt (evd_var rfl r4) evd_int)) (fun hb H5 e5 => ?_) fun hb H5 e5 => ?_
  · have ex := ex.trans e5
    have ht5 := ex _ _ ht1
    refine q_setIx (j := j + 1) rfl ht5 (evd_fdiv (evd_var rfl (r4.ex e5)) (evd_var rfl (.int M)) m0 (by omega)) (evd_is (evd_add evd_int (evd_var rfl (r3.ex e5))) (by congr 1; omega)) (by simp; omega) fun H6 e6 => ?_
    have q4 := rp_int r4
    subst q4
    refine (evd_mod (K := K) (evd_var rfl (.int ms[j])) (evd_var rfl (.int M)) m0).go fun v H7 e7 r => ?_
    rw [rp_int r]
    refine fin _ H7 (ms.set j (ms[j] / M)) ((cg.trans (Chg.own (ex.trans e6))).trans (Chg.of e7)) (e7 _ _ ?_) (by rw [List.length_set]; exact lm)
    rw [upd_same]
    simp [List.map_set]
  · have ex := ex.trans e5
    refine q_set (evd_mod (evd_add (evd_scrI rfl (ex_l ex scr1) (evd_var rfl (r3.ex e5)) nj) (evd_mul evd_int (T0 rfl ex) (.inl ⟨by decide, by decide⟩))) evd_int (by decide)) fun v5 H6 e6 r5 => ?_
    have b0 := Int.emod_nonneg (ns[j] + 104729 * ((m + 1 : Nat) : Int)) (b := 4294967291) (by decide)
    have b1 := Int.emod_lt_of_pos (ns[j] + 104729 * ((m + 1 : Nat) : Int)) (b := 4294967291) (by decide)
    refine q_set (evd_mod (evd_pow (j := 5) (evd_var rfl r5) evd_int (by decide) (by omega)) evd_int (by decide)) fun v6 H7 e7 r6 => ?_
    refine (evd_mod (evd_fdiv (evd_mod (evd_add (evd_mul (evd_fdiv (evd_var rfl r6) evd_int (by decide) (by decide)) evd_int (.inr ⟨by decide, by decide⟩)) (evd_var rfl r6)) evd_int (by decide)) evd_int (by decide) (by decide)) (evd_var rfl (.int M)) m0).go fun v H8 e8 r => ?_
    rw [rp_int r]
    have ex := ((ex.trans e6).trans e7).trans e8
    exact fin _ H8 ms (cg.trans (Chg.of ex)) (ex _ _ ht1) lm
theorem still_noL {d : Dat} (h : d.still = true) : d.isL = false := by
  cases d with
  | lst ds => rw [Dat.still] at h; cases h
  | _ => rfl
theorem rd__law_pick : Keeps (sp__law_pick K w) N__law_pick (t__law_pick K w) := by
  rintro vs H Q E ⟨a, t, ns, n, vs', ds, c, P, rfl, tw, ra, nt, ⟨xs, ne, len, st, rfl, rfl, rfl⟩, hn, k⟩
  obtain ⟨v2, rfl, r2⟩ := args1 ra
  obtain ⟨p, ys, rfl, hp, rp⟩ := rp_L r2
  have np : p ≠ t := fun e => nt xs rfl (by rw [e])
  have lx : 0 < xs.length := List.length_pos_iff.mpr ne
  refine ⟨_, rfl, imp_draw rfl rfl (Run.start tw) (evd_len (evd_var rfl r2) sL) (by omega) (by omega) hn fun r H2 r0 r1 cg rn => ?_⟩
  obtain ⟨j, rfl⟩ := Int.eq_ofNat_of_zero_le r0
  have hj : j < xs.length := by omega
  obtain ⟨y, hy, ry⟩ := rpAll_at rp (List.getElem?_eq_getElem hj)
  have hl : j < ys.length := (List.getElem?_eq_some_iff.mp hy).1
  have m : xs[j] ∈ xs := List.getElem_mem hj
  have sd := still_mem st m
  refine .inl ⟨p, ys, (j : Nat), y, rfl, rfl, SqL.of (cg _ _ hp np), ?_, k y H2 xs[j] m (ry.ton rn.ton sd) (frs_not (still_noL sd)) cg rn.tw⟩
  unfold atI
  rw [Evl.ixN_nat hl]
  exact hy
end
end Lib

namespace Lib
open PySem L2 PySem.Spec PyProof.Rows Evl
section
variable {K : PySem.W.Frag} {w : World} {a t p : Addr} {ns : List Int} {n m c : Nat} {H H' H0 H1 H2 : Hp} {σ : L2.St} {ta : TA} {tb te tl tm tj : TE} {d : Dat} {ds xs : List Dat} {D : Ends} {tz tu tw : TS} {g : TG} {tt tt2 : TT} {Q : VK}
/-! ### a reading's first step in sight -/
theorem x_asg (h : te σ H fun x H1 => g x σ H1 (tz D)) : tSeq (tAsg te g) tz D σ H := h
theorem x_ret (h : te σ H D.rt) : tRet te D σ H := h
theorem x_for (h : te σ H fun v H1 => tFor (iList K fun _ H Q => Q v H) g tu { D with nx := tz D } σ H1) : tSeq (tFor (iList K te) g tu) tz D σ H := h
theorem x_forE (h : te σ H fun v H1 => tFor (iList K fun _ H Q => Q v H) g tu D σ H1) : tFor (iList K te) g tu D σ H := h
theorem x_slL {r : V → Option Int → Option Int → Hp → VK → Prop} (h : te σ H fun x H1 => tm σ H1 fun v H2 => ∃ i, v = .int i ∧ r x none (some i) H2 Q) : tSl r te tNoPart (tPart tm) σ H Q := h
theorem x_op {r : R2} (h : te σ H fun x H1 => tb σ H1 fun y H2 => r x y H2 Q) : tOp r te tb σ H Q := h
theorem x_cb {r : List V → Hp → VK → Prop} (h : te σ H fun x H1 => r [x] H1 Q) : tCB r (tCons te tNil) σ H Q := h
theorem x_if (h : tt σ H fun c H1 => if c = true then te σ H1 Q else tb σ H1 Q) : tIf tt te tb σ H Q := h
theorem x_or {R : Bool → Hp → Prop} (h : tt σ H fun c H1 => if c = true then R true H1 else tt2 σ H1 R) : tOr tt tt2 σ H R := h
theorem x_and {R : Bool → Hp → Prop} (h : tt σ H fun c H1 => if c = true then tt2 σ H1 R else R false H1) : tAnd tt tt2 σ H R := h
theorem x_tup2 (h : te σ H fun x H1 => tb σ H1 fun y H2 => ∀ p, H2 p = none → Q (.ref p) (upd H2 p (.tup [x, y]))) : tTup (tCons te (tCons tb tNil)) σ H Q := by
  show te σ H fun x H1 => tb σ H1 fun y H2 => _ ∧ _
  have e : (fun x H1 => tb σ H1 fun y H2 => [x, y].length ≤ sizeLine ∧ ∀ p, H2 p = none → Q (.ref p) (upd H2 p (.tup [x, y]))) = fun x H1 => tb σ H1 fun y H2 => ∀ p, H2 p = none → Q (.ref p) (upd H2 p (.tup [x, y])) := by
    funext x H1
    congr 1
    funext y H2
    exact propext ⟨fun h => h.2, fun h => ⟨by show 2 ≤ sizeLine; decide, h⟩⟩
  rw [e]
  exact h
theorem x_tup3 (h : te σ H fun x H1 => tb σ H1 fun y H2 => tl σ H2 fun z H3 => ∀ p, H3 p = none → Q (.ref p) (upd H3 p (.tup [x, y, z]))) : tTup (tCons te (tCons tb (tCons tl tNil))) σ H Q := by
  show te σ H fun x H1 => tb σ H1 fun y H2 => tl σ H2 fun z H3 => _ ∧ _
  have e : (fun x H1 => tb σ H1 fun y H2 => tl σ H2 fun z H3 => [x, y, z].length ≤ sizeLine ∧ ∀ p, H3 p = none → Q (.ref p) (upd H3 p (.tup [x, y, z]))) = fun x H1 => tb σ H1 fun y H2 => tl σ H2 fun z H3 => ∀ p, H3 p = none → Q (.ref p) (upd H3 p (.tup [x, y, z])) := by
    funext x H1
    congr 1
    funext y H2
    congr 1
    funext z H3
    exact propext ⟨fun h => h.2, fun h => ⟨by show 3 ≤ sizeLine; decide, h⟩⟩
  rw [e]
  exact h
theorem x_app {i : Nat} {ys : List V} (hi : σ[i]? = some (some (.ref p))) (hp : H p = some (.lst ys)) (h : te σ H fun v H1 => rAppend (.ref p) [v] H1 fun _ H2 => D.nx σ H2) : tDrop (tBM K "list" rAppend (tVar i) (tCons te tNil)) D σ H :=
  ⟨_, hi, Or.inl ⟨rfl, ys, SqL.of hp⟩, h⟩
theorem x_appS {i : Nat} {ys : List V} (hi : σ[i]? = some (some (.ref p))) (hp : H p = some (.lst ys)) (h : te σ H fun v H1 => rAppend (.ref p) [v] H1 fun _ H2 => tz D σ H2) : tSeq (tDrop (tBM K "list" rAppend (tVar i) (tCons te tNil))) tz D σ H :=
  ⟨_, hi, Or.inl ⟨rfl, ys, SqL.of hp⟩, h⟩
theorem run_app {v : V} {ys : List V} (hp : H p = some (.lst ys)) (len : ys.length < 1000) (k : Q .non (upd H p (.lst (ys ++ [v])))) : rAppend (.ref p) [v] H Q := ⟨p, ys, v, rfl, rfl, hp, by have := big16; omega, k⟩
theorem run_sortedS {x : V} {ss : List Str} (r : Rp K H x (.lst (ss.map .str))) (len : ss.length ≤ 1000) (k : ∀ v H2 (zs : List Str), Ex H H2 → Rp K H2 v (.lst (zs.map .str)) → zs.Perm ss → (zs.map Dat.str).Pairwise (fun a b => leD a b = true) → Q v H2) : rSortedX K [x] H Q := by
  obtain ⟨a, xs, ea, ha, ra⟩ := rp_L r
  refine ⟨a, xs, ss.map .str, by rw [ea], SqL.of ha, ra, alike_strs ss, sortable_strs ss, dep_strs ss, by rw [rpAll_len ra, List.length_map]; exact len, fun ys es p hd pm pw hp => ?_⟩
  obtain ⟨zs, ez, pz⟩ := strs_of pm
  subst ez
  exact k _ _ zs (Ex.new hp) (.lst upd_same (hd.ex (Ex.new hp))) pz pw
theorem run_tuple {x : V} (r : Rp K H x (.lst ds)) (k : ∀ v H2, Ex H H2 → Rp K H2 v (.tup ds) → Q v H2) : rTupleX K [x] H Q := by
  obtain ⟨a, xs, ea, ha, ra⟩ := rp_L r
  exact ⟨a, xs, by rw [ea], .inl ⟨SqL.of ha, fun p hp => k _ _ (Ex.new hp) (.tup (st_of upd_same) (ra.ex (Ex.new hp)))⟩⟩
theorem run_catT {x y : V} (rx : Rp K H x (.tup ds)) (ry : Rp K H y (.tup xs)) (z : ds.length + xs.length ≤ 1000) (k : ∀ v H2, Ex H H2 → Rp K H2 v (.tup (ds ++ xs)) → Q v H2) : rPlus K x y H Q := by
  obtain ⟨a, us, ea, ha, ra⟩ := rp_T rx (.inl rfl)
  obtain ⟨b, ys, eb, hb, rb⟩ := rp_T ry (.inl rfl)
  have z' : us.length + ys.length ≤ sizeLine := by
    rw [rpAll_len ra, rpAll_len rb]
    exact Nat.le_trans z big16
  have rab := rpAll_app ra rb
  refine .inr (.inr ⟨a, b, us, ys, ea, eb, ha, hb, z', fun n => ?_, fun _ n => ?_, fun _ _ p hp => ?_⟩)
  · subst n
    exact k _ H (Ex.refl H) (.tup hb rab)
  · subst n
    rw [List.append_nil] at rab
    exact k _ H (Ex.refl H) (.tup ha rab)
  · exact k _ _ (Ex.new hp) (.tup (st_of upd_same) (rab.ex (Ex.new hp)))
theorem et_go {b : Bool} {R : Bool → Hp → Prop} (h : EvT tt σ H b) (k : ∀ H2, Ex H H2 → R b H2) : tt σ H R := h H (Ex.refl H) _ k
/-- a list that is not the town's -/
theorem rp_keep (r : Rp K H1 (.ref p) (.lst ds)) (ne : p ≠ t) (rn : Run K a t ns H0 n H1) (cg : Chg t H1 H2) (st : stillAll ds = true) : Rp K H2 (.ref p) (.lst ds) := by
  obtain ⟨_, ys, e, hp, ra⟩ := rp_L r
  cases e
  exact .lst (cg _ _ hp ne) (ra.ton (rn.tonC cg) st)
theorem rp_upd {q : Addr} {u o : HO} (r : Rp K H (.ref p) (.lst ds)) (ne : q ≠ p) (hq : H q = some u) (st : stillAll ds = true) (n : isTup u = false := by rfl) : Rp K (upd H q o) (.ref p) (.lst ds) := by
  obtain ⟨_, ys, e, hp, ra⟩ := rp_L r
  cases e
  exact .lst (by rw [upd_ne (Ne.symm ne)]; exact hp) (ra.ton (Ton.upd (Ton.refl H) hq n) st)
theorem imp_lcL {i : Nat} {vs : List Nat} (hi : σ[i]? = some (some (.ref p))) (r : Rp K H (.ref p) (.lst xs)) (st : stillAll xs = true) (ne : p ≠ t) (rn : Run K a t ns H0 n H) (I : Nat → List Dat → Prop) (c : Nat) (i0 : I 0 []) (few : xs.length ≤ 1000) (sl : ∀ i es, I i es → stillAll es = true ∧ es.length ≤ i)
    (hs : ∀ i x d Ha es (R1 : V → Hp → Prop) (R2 : Hp → Prop), xs[i]? = some d → I i es → Chg t H Ha → Rp K Ha x d → Run K a t ns H0 (n + i * c) Ha →
      (∀ y He d, d.still = true → Rp K He y d → Chg t Ha He → Run K a t ns H0 (n + (i + 1) * c) He → I (i + 1) (es ++ [d]) → R1 y He) → (∀ Hd, Chg t Ha Hd → Run K a t ns H0 (n + (i + 1) * c) Hd → I (i + 1) es → R2 Hd) →
      g x (wipe σ vs) Ha fun σ2 Hc => wipe σ2 vs = wipe σ vs ∧ tt σ2 Hc fun b Hd => if b = true then te σ2 Hd R1 else R2 Hd)
    (k : ∀ p H' es, H p = none → Rp K H' (.ref p) (.lst es) → I xs.length es → Chg t H H' → Run K a t ns H0 (n + xs.length * c) H' → Q (.ref p) H') : tLc (iList K (tVar i)) g tt te vs σ H Q := by
  obtain ⟨_, ys, e, hp, ra⟩ := rp_L r
  cases e
  have ly := rpAll_len ra
  refine ⟨_, hi, p, rfl, ⟨ys, SqL.of hp⟩, ?_⟩
  refine lc_imp (walk_listG hp ne) rn I c i0 (by omega) sl (fun i x Ha Hb es R1 R2 hi ie cg y rn' q1 q2 => ?_) (by rw [ly]; exact k)
  obtain ⟨eb, y⟩ := y
  subst eb
  obtain ⟨d, h1, h2⟩ := rpAll_get ra y
  exact hs i x d Hb es R1 R2 h1 ie cg (h2.ton (rn.tonC cg) (still_mem st (List.mem_of_getElem? h1))) rn' q1 q2
theorem imp_lcR {M : Int} {vs : List Nat} (hm : Evd K tl σ H (.int M)) (m1 : M ≤ 1000) (m0 : 0 ≤ M) (rn : Run K a t ns H0 n H) (I : Nat → List Dat → Prop) (c : Nat) (i0 : I 0 []) (sl : ∀ i es, I i es → stillAll es = true ∧ es.length ≤ i)
    (hs : ∀ (i : Nat) Ha es (R1 : V → Hp → Prop) (R2 : Hp → Prop), (i : Int) < M → I i es → Chg t H Ha → Run K a t ns H0 (n + i * c) Ha →
      (∀ y He d, d.still = true → Rp K He y d → Chg t Ha He → Run K a t ns H0 (n + (i + 1) * c) He → I (i + 1) (es ++ [d]) → R1 y He) → (∀ Hd, Chg t Ha Hd → Run K a t ns H0 (n + (i + 1) * c) Hd → I (i + 1) es → R2 Hd) →
      g (.int (i : Nat)) (wipe σ vs) Ha fun σ2 Hc => wipe σ2 vs = wipe σ vs ∧ tt σ2 Hc fun b Hd => if b = true then te σ2 Hd R1 else R2 Hd)
    (k : ∀ p H' es, H p = none → Rp K H' (.ref p) (.lst es) → I M.toNat es → Chg t H H' → Run K a t ns H0 (n + M.toNat * c) H' → Q (.ref p) H') : tLc (iRng1 (tCons tl tNil)) g tt te vs σ H Q := by
  refine hm.go fun v H1 e1 r => ⟨M, by rw [rp_int r], by omega, by omega, ?_⟩
  refine lc_imp walk_rangeG (rn.ex e1) I c i0 (by omega) sl (fun i x Ha Hb es R1 R2 hi ie cg y rn' q1 q2 => ?_) fun p H' es hp r ie cg rn' => k p H' es (fresh_back e1 hp) r ie ((Chg.of e1).trans cg) rn'
  obtain ⟨eb, ex⟩ := y
  subst eb
  subst ex
  exact hs i Hb es R1 R2 (by omega) ie ((Chg.of e1).trans cg) rn' q1 q2
/-! ### the world -/
abbrev rowD (r : List (Str × Nat)) : Dat := .ptup (r.map consD)
theorem evd_con {s : Str} {k : Nat} : Evd K (tTup (tCons (tC (.str s)) (tCons (tC (.int (k : Nat))) tNil))) σ H (consD (s, k)) := evd_tup (eva2 evd_str evd_int) (by simp)
theorem still_rows : stillAll (rowsOf.map rowD) = true := still_map (fun r => by rw [Dat.still]; exact still_cons r) _
def trN : List Str := ["count", "show", "fresh"]
def GP : Nat → List (Str × Bool × List Str) → Prop
  | 0, ts => ts = []
  | 1, ts => ∃ f, ts = ([("count", f, [])] : List (Str × Bool × List Str))
  | 2, ts => ∃ f g b, b ∈ ([[], ["count"]] : List (List Str)) ∧ ts = ([("count", f, []), ("show", g, b)] : List (Str × Bool × List Str))
  | 3, ts => ∃ f g b c, b ∈ ([[], ["count"]] : List (List Str)) ∧ c ∈ ([[], ["count"], ["show"], ["count", "show"]] : List (List Str)) ∧ ts = ([("count", f, []), ("show", g, b), ("fresh", true, c)] : List (Str × Bool × List Str))
  | _, _ => False
def subs : Nat → List (List Str)
  | 0 => [[]]
  | 1 => [[], ["count"]]
  | _ => [[], ["count"], ["show"], ["count", "show"]]
theorem gp_step : ∀ {i : Nat} {ts : List (Str × Bool × List Str)} {s : Str} {f : Bool} {b : List Str}, GP i ts → trN[i]? = some s → (s = "fresh" → f = true) → b ∈ subs i → GP (i + 1) (ts ++ [(s, f, b)])
  | 0, ts, s, f, b, g, h, hf, hb => by
    cases g
    cases h
    simp [subs] at hb
    subst hb
    exact ⟨f, rfl⟩
  | 1, ts, s, f, b, g, h, hf, hb => by
    obtain ⟨f', rfl⟩ := g
    cases h
    exact ⟨f', f, b, hb, rfl⟩
  | 2, ts, s, f, b, g, h, hf, hb => by
    obtain ⟨f', g', b', hb', rfl⟩ := g
    cases h
    rw [hf rfl]
    exact ⟨f', g', b', b, hb', hb, rfl⟩
  | i + 3, ts, s, f, b, g, h, hf, hb => by simp [trN] at h
theorem gp_good : ∀ {i : Nat} {ts : List (Str × Bool × List Str)}, GP i ts → 0 < i → GoodT ts
  | 0, ts, g, h => absurd h (by simp)
  | 1, ts, g, h => by obtain ⟨f, rfl⟩ := g; exact .one f
  | 2, ts, g, h => by obtain ⟨f, g', b, hb, rfl⟩ := g; exact .two f g' b hb
  | 3, ts, g, h => by obtain ⟨f, g', b, c, hb, hc, rfl⟩ := g; exact .three f g' b c hb hc
  | i + 4, ts, g, h => g.elim
theorem gp_len : ∀ {i : Nat} {ts : List (Str × Bool × List Str)}, GP i ts → ts.length ≤ 3
  | 0, ts, g => by cases g; simp
  | 1, ts, g => by obtain ⟨f, rfl⟩ := g; simp
  | 2, ts, g => by obtain ⟨f, g', b, hb, rfl⟩ := g; simp
  | 3, ts, g => by obtain ⟨f, g', b, c, hb, hc, rfl⟩ := g; simp
  | i + 4, ts, g => g.elim
def someOf (i : Nat) (ss : List Str) : Prop := ss.Sublist (trN.take i)
theorem some_subs {i : Nat} {ss : List Str} (h : ss.Sublist (trN.take i)) (hi : i ≤ 2) : ss ∈ subs i := by
  have one : ∀ {x : Str} {l : List Str}, l.Sublist [x] → l = [] ∨ l = [x] := fun {x l} h => by
    cases h with
    | cons _ h => exact .inl (List.sublist_nil.mp h)
    | cons_cons _ h => exact .inr (by rw [List.sublist_nil.mp h])
  match i, hi with
  | 0, _ =>
    have e := List.sublist_nil.mp h
    simp [e, subs]
  | 1, _ =>
    rcases one h with e | e <;> simp [e, subs]
  | 2, _ =>
    have h : ss.Sublist ["count", "show"] := h
    cases h with
    | cons _ h => rcases one h with e | e <;> simp [e, subs]
    | cons_cons _ h => rcases one h with e | e <;> simp [e, subs]
theorem trN_up : (trN.take 2).Pairwise fun a b => strLt a b = true := by
  unfold trN strLt
  decide +kernel
theorem rd__law_world : Keeps (sp__law_world K w) N__law_world (t__law_world K w) := by
  rintro vs H Q E ⟨a, t, ns, n, vs', ds, c, P, rfl, tw, ra, nt, ⟨rfl, rfl, rfl⟩, hn, k⟩
  cases ra
  have rn0 := Run.start tw
  refine q_setF (K := K) (d := .lst ((rowsOf.take 3).map rowD)) (evf_lst (eva3 (evd_tupF (eva3 (evd_con (k := 1)) (evd_con (k := 0)) (evd_con (k := 2))) (by simp)) (evd_tupF (eva2 (evd_con (k := 1)) (evd_con (k := 0))) (by simp)) (evd_tupF (eva2 (evd_con (k := 0)) (evd_con (k := 2))) (by simp))) (by rw [List.length_map, List.length_take]; omega)) fun v2 H1 e1 r2 _ => ?_
  refine q_setF (d := .lst ((rowsOf.take 6).map rowD)) (evf_cat (evd_var rfl r2) (evf_lst (eva3 (evd_tupF (eva3 (evd_con (k := 1)) (evd_con (k := 0)) (evd_con (k := 0))) (by simp)) (evd_tupF (eva1 (evd_con (k := 0))) (by simp)) (evd_tupF (eva3 (evd_con (k := 1)) (evd_con (k := 1)) (evd_con (k := 0))) (by simp))) (by simp)).dd (by simp [rowsOf])) fun v2 H2 e2 r2 _ => ?_
  refine q_setF (d := .lst (rowsOf.map rowD)) (evf_cat (evd_var rfl r2) (evf_lst (eva2 (evd_tupF (eva4 (evd_con (k := 1)) (evd_con (k := 0)) (evd_con (k := 2)) (evd_con (k := 0))) (by simp)) (evd_tupF (eva3 (evd_con (k := 1)) (evd_con (k := 0)) (evd_con (k := 2))) (by simp))) (by simp)).dd (by simp [rowsOf])) fun v2 H3 e3 r2 f2 => ?_
  obtain ⟨p2, rfl, fp2⟩ := f2 _ rfl
  have rn3 := ((rn0.ex e1).ex e2)
  have np2 : p2 ≠ t := town_ne rn3.now fp2
  have rn3 := rn3.ex e3
  refine q_parF (K := K) (evf_lst eva_nil) (evf_lst eva_nil) fun v3 v4 H4 H5 e4 e5 r3 r4 f3 f4 => ?_
  obtain ⟨p3, rfl, fp3⟩ := f3 _ rfl
  obtain ⟨p4, rfl, fp4⟩ := f4 _ rfl
  have np3 : p3 ≠ t := town_ne rn3.now fp3
  have bp3 : H p3 = none := rn3.back fp3
  have n23 : p2 ≠ p3 := fun e => by
    obtain ⟨_, _, e', h, _⟩ := rp_L r2
    cases e'
    subst e
    rw [h] at fp3
    cases fp3
  have n24 : p2 ≠ p4 := fun e => by
    obtain ⟨_, _, e', h, _⟩ := rp_L (r2.ex e4)
    cases e'
    subst e
    rw [h] at fp4
    cases fp4
  have rn4 := rn3.ex e4
  have np4 : p4 ≠ t := town_ne rn4.now fp4
  have bp4 : H p4 = none := rn4.back fp4
  obtain ⟨_, y3, ee3, hp3, rr3⟩ := rp_L r3
  cases ee3
  cases rr3
  obtain ⟨_, y4, ee4, hp4, rr4⟩ := rp_L r4
  cases ee4
  cases rr4
  have n34 : p3 ≠ p4 := fun e => by subst e; rw [hp3] at fp4; cases fp4
  have hp3 := e5 _ _ hp3
  have rn5 := rn4.ex e5
  have r2 := (r2.ex e4).ex e5
  refine x_for (x_slL ((evf_lst (K := K) (ds := trN.map .str) (eva3 evd_str evd_str evd_str) (by simp [trN])).go fun v H6 e6 r6 f6 => x_op ?_))
  obtain ⟨q, rfl, fq⟩ := f6 _ rfl
  have nq : q ≠ t := town_ne rn5.now fq
  have rn6 := rn5.ex e6
  obtain ⟨_, yq, eeq, hq, rq⟩ := rp_L r6
  cases eeq
  refine imp_draw rfl rfl rn6 evd_int (by decide) (by decide) (by omega) fun r H7 r0 r1 c7 rn7 => .inl ⟨1, r, rfl, rfl, 1 + r, rfl, q, yq, rfl, SqL.of (c7 _ _ hq nq), fun u hu => ?_⟩
  obtain ⟨j, rfl⟩ := Int.eq_ofNat_of_zero_le r0
  have hj : j ≤ 2 := by omega
  have cut : RpAll K H7 (cutV yq none (some (1 + (j : Int)))) ((trN.take (j + 1)).map .str) := by
    have q1 := rp_cut (rq.ton (rn6.tonC c7) (still_strs _)) none (some (1 + (j : Int)))
    have q2 : cutD (trN.map Dat.str) none (some (1 + (j : Int))) = (trN.take (j + 1)).map .str := by
      match j, hj with
      | 0, _ => rfl
      | 1, _ => rfl
      | 2, _ => rfl
    rw [q2] at q1
    exact q1
  have len3 : (trN.take (j + 1)).length = j + 1 := by
    match j, hj with
    | 0, _ => rfl
    | 1, _ => rfl
    | 2, _ => rfl
  have bu := rn7.back hu
  have nu : u ≠ t := town_ne rn7.now hu
  have hp3' := c7 _ _ (e6 _ _ hp3) np3
  have hp4' := c7 _ _ (e6 _ _ hp4) np4
  have n3u : p3 ≠ u := fun e => by subst e; rw [hp3'] at hu; cases hu
  have n4u : p4 ≠ u := fun e => by subst e; rw [hp4'] at hu; cases hu
  refine d_forP (ds := (trN.take (j + 1)).map .str) upd_same (cut.ton (Ton.of (Ex.new hu)) (still_strs _)) (still_strs _) (fun i σ' H' => ∃ (x5 x6 x8 : Option V) (ts : List (Str × Bool × List Str)) (as : List V), σ' = [some (.ref a), some (.ref t), some (.ref p2), some (.ref p3), some (.ref p4), x5, x6, none, x8] ∧ i ≤ 3 ∧
      Run K a t ns H (n + 1 + i * 3) H' ∧ Rp K H' (.ref p2) (.lst (rowsOf.map rowD)) ∧ H' p3 = some (.lst as) ∧ RpAll K H' as (ts.map traitD) ∧ GP i ts ∧ H' p4 = some (.lst ((trN.take i).map V.str)) ∧ H' u = some (.lst (cutV yq none (some (1 + (j : Int))))))
    ⟨none, none, none, [], [], rfl, by omega, (rn7.ex (Ex.new hu)).mono (by omega), (rp_keep (r2.ex e6) np2 rn6 c7 still_rows).ex (Ex.new hu), by rw [upd_ne n3u]; exact hp3', .nil, rfl, by rw [upd_ne n4u]; exact hp4', upd_same⟩
    (fun i σ' H' ⟨_, _, _, _, _, _, _, _, _, _, _, _, _, h⟩ => h) ?_ ?_
  · rintro i di x σ' Ha hi ⟨x5, x6, x8, ts, as, rfl, i3, rna, ra2, ha3, ras, gp, ha4, hau⟩ rx
    obtain ⟨s, hs, rfl⟩ := get_map hi
    have hij : i < j + 1 := by
      have := (List.getElem?_eq_some_iff.mp hs).1
      rw [len3] at this
      exact this
    have hs' : trN[i]? = some s := by
      rw [List.getElem?_take_of_lt hij] at hs
      exact hs
    have rx := rp_str rx
    subst rx
    have ra4 : Rp K Ha (.ref p4) (.lst ((trN.take i).map .str)) := .lst ha4 (strs_rpAll _)
    refine x_asg (x_cb (x_cb (imp_lcL (p := p4) rfl ra4 (still_strs _) np4 rna (fun k es => ∃ ss : List Str, es = ss.map .str ∧ ss.Sublist ((trN.take i).take k)) 1 ⟨[], rfl, List.Sublist.refl _⟩ (by rw [List.length_map, List.length_take]; omega) ?_ ?_ ?_)))
    · rintro k es ⟨ss, rfl, sb⟩
      refine ⟨still_strs _, ?_⟩
      have := sb.length_le
      rw [List.length_take] at this
      rw [List.length_map]
      omega
    · rintro k x d Hb es R1 R2 hk ⟨ss, rfl, sb⟩ cb rx rnb q1 q2
      obtain ⟨s', hs', rfl⟩ := get_map hk
      have tk : (trN.take i).take (k + 1) = (trN.take i).take k ++ [s'] := by rw [List.take_add_one, hs']; rfl
      refine ⟨rfl, imp_zero rfl rfl rnb evd_int (by decide) (by decide) ?_ fun b Hc cc rnc => ?_⟩
      · have hk := (List.getElem?_eq_some_iff.mp hk).1
        rw [List.length_map, List.length_take] at hk
        omega
      · cases b with
        | true =>
          refine L2.iteT ⟨_, rfl, q1 x Hc (.str s') rfl (rx.ton (rnb.tonC cc)) cc (rnc.mono (by omega)) ⟨ss ++ [s'], by rw [List.map_append]; rfl, ?_⟩⟩
          rw [tk]
          exact List.Sublist.append sb (List.Sublist.refl _)
        | false =>
          refine L2.iteF (q2 Hc cc (rnc.mono (by omega)) ⟨ss, rfl, ?_⟩)
          rw [tk]
          exact sb.trans (List.sublist_append_left _ _)
    rintro q Hb es hq rq ⟨ss, rfl, sb⟩ cb rnb
    rw [List.length_map, List.length_take] at rnb
    rw [List.length_map, List.take_length] at sb
    refine run_sortedS rq (by have := sb.length_le; rw [List.length_take] at this; omega) fun v Hc zs ec rv pz wz => run_tuple rv fun v6 Hd ed r6 => ?_
    have ez : zs = ss := by
      have i2 : i ≤ 2 := by omega
      have up : ss.Pairwise fun a b => strLt a b = true := trN_up.sublist (sb.trans (List.take_sublist_take_left i2))
      have q := strs_one (pz.map Dat.str) wz up
      have g : ∀ l : List Str, (l.map Dat.str).map (fun d => match d with | .str s => s | _ => "") = l := fun l => by
        rw [List.map_map]
        conv => rhs; rw [← List.map_id l]
        rfl
      have q := congrArg (List.map fun d : Dat => match d with | .str s => s | _ => "") q
      rw [g, g] at q
      exact q
    subst ez
    have sub : zs ∈ subs i := some_subs sb (by omega)
    have rnd := (rnb.ex ec).ex ed
    have cgd : Chg t Ha Hd := (cb.trans (Chg.of ec)).trans (Chg.of ed)
    have form : ∀ R : VK, (∀ f He, Chg t Hd He → Run K a t ns H (n + 1 + i * 3 + 2 + 1) He → (s = "fresh" → f = true) → R (.str (formS f)) He) → tIf (tOr (tTest (tOp (rEqX K) (tVar 5) (tC (.str "fresh")))) (tTest (tOp (rEqX K) (tCall (sp__law_draw K w) [] E0 (tCons (tVar 0) (tCons (tVar 1) (tCons (tC (.int 6)) tNil)))) (tC (.int 0))))) (tC (.str "make")) (tC (.str "tell"))
        [some (.ref a), some (.ref t), some (.ref p2), some (.ref p3), some (.ref p4), some (.str s), some v6, none, x8] Hd R := by
      intro R hR
      refine x_if (x_or (et_go (et_T (evd_eqS (K := K) (evd_var rfl (.str s)) evd_str)) fun He ee => ?_))
      by_cases es : s = "fresh"
      · rw [decide_eq_true es]
        exact L2.iteT (L2.iteT (hR true He (Chg.of ee) ((rnd.ex ee).mono (by omega)) fun _ => rfl))
      · rw [decide_eq_false es]
        refine L2.iteF (imp_zero rfl rfl (rnd.ex ee) evd_int (by decide) (by decide) (by omega) fun b Hf cf rnf => ?_)
        cases b with
        | true => exact L2.iteT (hR true Hf ((Chg.of ee).trans cf) (rnf.mono (by omega)) fun _ => rfl)
        | false => exact L2.iteF (hR false Hf ((Chg.of ee).trans cf) (rnf.mono (by omega)) fun z => absurd z es)
    refine x_asg (form _ fun f He ce rne hf => ?_)
    have tnA : Ton Ha He := (rna.tonC (cgd.trans ce))
    have cA := cgd.trans ce
    have le := gp_len gp
    have las := rpAll_len ras
    rw [List.length_map] at las
    refine q_appD (p := p3) rfl (cA _ _ ha3 np3) (by omega) (evd_tup (eva3 (evd_var rfl (.str s)) (evd_var rfl (.str _)) (evd_var rfl (r6.ton (rnd.tonC ce) (still_strs _)))) (by simp)) fun v Hf ef rv => ?_
    have rnf := rne.ex ef
    have cF := cA.trans (Chg.of ef)
    have rng := rnf.mut bp3 (o := .lst (as ++ [v]))
    have tf : Ton Hf (upd Hf p3 (.lst (as ++ [v]))) := Ton.upd (Ton.refl Hf) (cF _ _ ha3 np3)
    refine d_app (p := p4) (xs := (trN.take i).map V.str) rfl (by rw [upd_ne (Ne.symm n34)]; exact cF _ _ ha4 np4) (by rw [List.length_map, List.length_take]; omega) (evd_var rfl (.str s)) fun v' Hg eg rv' => ?_
    have ev' := rp_str rv'
    subst ev'
    have hg4 : Hg p4 = some (.lst ((trN.take i).map V.str)) := eg _ _ (by rw [upd_ne (Ne.symm n34)]; exact cF _ _ ha4 np4)
    have tg : Ton Hf (upd Hg p4 (.lst ((trN.take i).map V.str ++ [.str s]))) := Ton.upd (tf.trans (Ton.of eg)) hg4
    have tAll : Ton Ha (upd Hg p4 (.lst ((trN.take i).map V.str ++ [.str s]))) := (rna.tonC cF).trans tg
    refine ⟨tAll, _, _, _, ts ++ [(s, f, zs)], as ++ [v], rfl, by omega, ((rng.ex eg).mut bp4).mono (by omega), ?_, ?_, ?_, gp_step gp hs' hf sub, ?_, ?_⟩
    · have q := rp_upd (o := .lst (as ++ [v])) (rp_keep ra2 np2 rna cF still_rows) (Ne.symm n23) (cF _ _ ha3 np3) still_rows
      exact rp_upd (q.ex eg) (Ne.symm n24) hg4 still_rows
    · rw [upd_ne n34]
      exact eg _ _ upd_same
    · rw [List.map_append]
      exact rpAll_app (ras.ton tAll (still_traits _)) (.cons (rv.ton tg (by simp [Dat.still, stillAll, still_strs])) .nil)
    · rw [upd_same, take_map V.str hs']
    · rw [upd_ne (Ne.symm n4u)]
      refine eg _ _ ?_
      rw [upd_ne (Ne.symm n3u)]
      exact cF _ _ hau nu
  · rintro σ' Ha ⟨x5, x6, x8, ts, as, rfl, i3, rna, ra2, ha3, ras, gp, ha4, hau⟩
    rw [List.length_map, len3] at rna gp i3
    refine x_ret (x_tup2 (imp_pick rfl rfl rna (evn_var rfl ra2 np2) (by simp [rowsOf]) (by rw [List.length_map]; decide) still_rows (by omega) fun v Hb d hd rd cb rnb => ?_))
    obtain ⟨row, hrow, rfl⟩ := List.mem_map.mp hd
    have hb3 := cb _ _ ha3 np3
    have rb3 : Rp K Hb (.ref p3) (.lst (ts.map traitD)) := .lst hb3 (ras.ton (rna.tonC cb) (still_traits _))
    refine x_cb ⟨_, rfl, run_tuple rb3 fun y Hc ec ry q hq => ?_⟩
    refine k _ _ (worldD ⟨row, ts⟩) ⟨⟨row, ts⟩, ⟨hrow, gp_good gp (by omega)⟩, rfl⟩ (.tup (st_of upd_same) (.cons ((rd.ex ec).ex (Ex.new hq)) (.cons (ry.ex (Ex.new hq)) .nil))) (frs_not rfl) ?_ ?_
    · exact (rnb.ex (ec.trans (Ex.new hq))).chg
    · exact ((rnb.ex (ec.trans (Ex.new hq))).mono (by omega)).tw
end
end Lib

namespace Lib
open PySem L2 PySem.Spec PyProof.Rows Evl
section
variable {K : PySem.W.Frag} {w : World} {a t p : Addr} {ns : List Int} {n m c : Nat} {H H' H0 H1 H2 : Hp} {σ : L2.St} {ta : TA} {tb te tl tm tj : TE} {d : Dat} {ds xs : List Dat} {D : Ends} {tz tu tw : TS} {g : TG} {tt tt2 : TT} {Q : VK}
theorem x_yes {R : Bool → Hp → Prop} (h : R true H) : tYes σ H R := h
theorem x_whenS (h : tt σ H fun b H1 => if b = true then tu { D with nx := tz D } σ H1 else tz D σ H1) : tSeq (tIfS tt tu tNext) tz D σ H := h
theorem x_whenE (h : tt σ H fun b H1 => if b = true then tu D σ H1 else D.nx σ H1) : tIfS tt tu tNext D σ H := h
/-- the names of the traits of form f -/
def ofForm (W : Wd) (f : Str) : List Str := (W.traits.filter fun x => decide (formS x.2.1 = f)).map (·.1)
theorem form_in {W : Wd} {f : Bool} {s : Str} : s ∈ ofForm W (formS f) ↔ ∃ b, (s, f, b) ∈ W.traits := by
  unfold ofForm
  rw [List.mem_map]
  constructor
  · rintro ⟨⟨s', g, b⟩, hx, rfl⟩
    obtain ⟨h1, h2⟩ := List.mem_filter.mp hx
    have e : g = f := by
      have h2 := of_decide_eq_true h2
      have ft : ¬ formS false = formS true := by decide +kernel
      cases g <;> cases f <;> first | rfl | exact absurd h2 ft | exact absurd h2.symm ft
    subst e
    exact ⟨b, h1⟩
  · rintro ⟨b, hb⟩
    exact ⟨_, List.mem_filter.mpr ⟨hb, decide_eq_true rfl⟩, rfl⟩
theorem form_len {W : Wd} (gw : GoodW W) (f : Str) : (ofForm W f).length ≤ 3 := by
  unfold ofForm
  rw [List.length_map]
  exact Nat.le_trans (List.length_filter_le _ _) (gt_len gw.tra)
/-- [row[0] for row in world[1] if row[1] == f] -/
theorem evf_ofForm {W : Wd} (gw : GoodW W) {i j : Nat} {v : V} {f : Str} (hv : σ[i]? = some (some v)) (hj : j < σ.length) (n : j ≠ i) (r : Rp K H v (worldD W)) :
    Evf K (tLc (iTup K (tOp (rIx K) (tVar i) (tC (.int 1)))) (gName j) (tTest (tOp (rEqX K) (tOp (rIx K) (tVar j) (tC (.int 1))) (tC (.str f)))) (tOp (rIx K) (tVar j) (tC (.int 0))) [j]) σ H (.lst ((ofForm W f).map .str)) :=
  evf_is (evf_lcF traitD (fun x => .str x.1) (fun x => decide (formS x.2.1 = f)) (src_tup (ix1 (evd_var hv r)) iT) (gw_few gw) (fun _ _ => rfl) fun x hx y H1 e1 rx =>
    ⟨_, tgt1, wipe1, et_T (evd_eqS (ix1 (evd_var (slot0 hj) rx)) evd_str), fun _ => ix0 (evd_var (slot0 hj) rx)⟩) (by unfold ofForm; rw [List.map_map]; rfl)
theorem short_mark {W : Wd} {p : Int} : ShortRk W p .mark := ⟨trivial, by simp [Rk.count], by simp [Rk.depth]⟩
theorem short_num {W : Wd} {p : Int} {n : Nat} (h : n ≤ 99) : ShortRk W p (.num n) := ⟨h, by simp [Rk.count], by simp [Rk.depth]⟩
/-- one more reckoning of parts that are short -/
structure TinyRk (W : Wd) (p : Int) (r : Rk) : Prop where
  good : GoodRk W p r
  few : r.count ≤ 5
  flat : r.depth ≤ 3
theorem TinyRk.short {W : Wd} {p : Int} {r : Rk} (h : TinyRk W p r) : ShortRk W p r := ⟨h.good, by have := h.few; omega, by have := h.flat; omega⟩
theorem rd__law_body : Keeps (sp__law_body K w) N__law_body (t__law_body K w) := by
  rintro vs H Q E ⟨a, t, ns, n, vs', ds, c, P, rfl, tw, ra, nt, ⟨W, s, kk, as, gw, hs, k2, l3, al, rfl, rfl, rfl⟩, hn, k⟩
  obtain ⟨v2, v3, v4, v5, rfl, r2, r3, r4, r5⟩ := args4 ra
  have rn := Run.start tw
  obtain ⟨⟨s', f, b⟩, hx, es⟩ := List.mem_map.mp hs
  have es : s' = s := es
  subst es
  have one : (W.traits.filter fun x => decide (x.1 = s')) = [(s', f, b)] := by
    refine filter_one _ hx (by simp) (fun y my py => ?_) (nd_of_map (tn_nd gw))
    obtain ⟨t', f', b'⟩ := y
    have e : t' = s' := of_decide_eq_true py
    subst e
    exact (tr_one gw hx my).symm
  have e4 := rp_int r4
  subst e4
  have e3 := rp_str r3
  subst e3
  refine q_set (evd_ix 0 (evd_is (evf_lcF traitD (fun t => .str (formS t.2.1)) (fun x => decide (x.1 = s')) (src_tup (ix1 (evd_var rfl r2)) iT) (gw_few gw) (fun _ _ => rfl) fun y _ x H1 e1 rx => ⟨_, tgt1, rfl, et_T (evd_eqS (ix0 (evd_var rfl rx)) (evd_var rfl (.str s'))), fun _ => ix1 (evd_var rfl rx)⟩).dd (by rw [one])) evd_int sL rfl rfl) fun v6 H1 e1 r6 => ?_
  have e6 := rp_str r6
  subst e6
  have rn1 := rn.ex e1
  refine q_setF (evf_ofForm gw (i := 2) (j := 7) rfl (by show 7 < 17; decide) (by decide) (r2.ex e1)) fun v8 H2 e2 r8 f8 => ?_
  obtain ⟨p8, rfl, fp8⟩ := f8 _ rfl
  have np8 : p8 ≠ t := town_ne rn1.now fp8
  have rn2 := rn1.ex e2
  refine x_asg (x_tup2 (imp_draw rfl rfl rn2 evd_int (by decide) (by decide) (by omega) fun z H3 z0 z1 c3 rn3 q hq => ?_))
  obtain ⟨num, rfl⟩ := Int.eq_ofNat_of_zero_le z0
  have num9 : num ≤ 99 := by omega
  have rn4 := rn3.ex (Ex.new (o := .tup [.str "number", .int ((num : Nat) : Int)]) hq)
  have r9 : Rp K (upd H3 q (.tup [.str "number", .int ((num : Nat) : Int)])) (.ref q) (Rk.num num).d := .tup (st_of upd_same) (.cons (.str _) (.cons (.int _) .nil))
  have r8 := (rp_keep r8 np8 rn2 c3 (still_strs _)).ex (Ex.new (o := .tup [.str "number", .int ((num : Nat) : Int)]) hq)
  have tn : Ton H (upd H3 q (.tup [.str "number", .int ((num : Nat) : Int)])) := rn4.ton
  have stW : (worldD W).still = true := by simp [Dat.still, stillAll, still_cons, still_traits]
  have r2 := r2.ton tn stW
  have r5 := r5.ton tn (still_map (fun _ => rfl) _)
  revert r9 r8 r2 r5 rn4
  generalize upd H3 q (.tup [.str "number", .int ((num : Nat) : Int)]) = G
  intro rn4 r9 r8 r2 r5
  clear tn
  have fin : ∀ v H' b, GoodB W s' kk b → Rp K H' v b.d → Run K a t ns H (n + 20) H' → Q v H' := fun v H' b gb rb rn => k v H' b.d ⟨b, gb, rfl⟩ rb (frs_not (still_noL (still_body b))) rn.chg rn.tw
  show tSeq (tIfS _ _ _) _ _ _ _
  cases f with
  | true =>
    refine q_take (eqS_t (K := K) (evd_var rfl (.str _)) rfl) fun H4 e4 => ?_
    have rn5 := rn4.ex e4
    refine x_asg (imp_pick (xs := [Rk.mark, .plus .mark (.num 1), .num num].map Rk.d) rfl rfl rn5 (evn_lst (evf_lst (eva3 (evd_tup (eva1 evd_str) (by simp)) (evd_tup (eva3 evd_str (evd_tup (eva1 evd_str) (by simp)) (evd_tup (eva2 evd_str evd_int) (by simp))) (by simp)) (evd_var rfl (r9.ex e4))) (by simp)) rn5.now) (by simp) (by simp) (still_map still_rk _) (by omega) fun v10 H5 d hd r10 c5 rn6 => ?_)
    obtain ⟨rk, hrk, rfl⟩ := List.mem_map.mp hd
    have srk : ShortRk W (-1) rk := by
      simp only [List.mem_cons, List.mem_nil_iff, or_false] at hrk
      rcases hrk with rfl | rfl | rfl
      · exact short_mark
      · exact ⟨⟨trivial, by show 1 ≤ 99; decide⟩, by simp [Rk.count], by simp [Rk.depth]⟩
      · exact short_num num9
    have r2 := (r2.ex e4).ton (rn5.tonC c5) stW
    refine q_setF (evf_ofForm gw (i := 2) (j := 7) (f := formS true) rfl (by show 7 < 17; decide) (by decide) r2) fun v11 H6 e6 r11 f11 => ?_
    obtain ⟨p11, rfl, fp11⟩ := f11 _ rfl
    have np11 : p11 ≠ t := town_ne rn6.now fp11
    have rn7 := rn6.ex e6
    refine x_ret (x_op ((evd_tup (K := K) (eva2 evd_str (evd_var rfl (r10.ex e6))) (by simp)).go fun x H7 e7 rx => ?_))
    have rn8 := rn7.ex e7
    have r11 := r11.ex e7
    have mk : ofForm W (formS true) ≠ [] := List.ne_nil_of_mem (form_in.mpr ⟨b, hx⟩)
    refine x_cb (imp_lcR (M := (kk : Int)) (evd_var rfl (.int _)) (by omega) (by omega) rn8 (fun i es => ∃ ps : List (Str × Rk), es = ps.map madeD ∧ ps.length = i ∧ ∀ x, x ∈ ps → Makes W x.1 ∧ ShortRk W (-1) x.2) 1 ⟨[], rfl, rfl, by simp⟩ ?_ ?_ ?_)
    · rintro i es ⟨ps, rfl, hl, _⟩
      exact ⟨still_map still_made _, by rw [List.length_map]; omega⟩
    · rintro i Ha es R1 R2 hi ⟨ps, rfl, hl, hp⟩ cA rnA q1 q2
      refine ⟨rfl, x_yes ?_⟩
      refine L2.iteT ?_
      refine (x_tup2 (imp_pick rfl rfl rnA (evn_var rfl (rp_keep r11 np11 rn8 cA (still_strs _)) np11) (by simpa using mk) (by rw [List.length_map]; have := form_len gw (formS true); omega) (still_strs _) (by omega) fun v Hb d hd rd cb rnb => ?_))
      obtain ⟨nm, hnm, rfl⟩ := List.mem_map.mp hd
      refine (evd_tup (K := K) (eva1 evd_str) (by simp)).go fun y Hc ec ry q hq => ?_
      refine q1 _ _ (madeD (nm, .mark)) (still_made _) (.tup (st_of upd_same) (.cons ((rd.ex ec).ex (Ex.new hq)) (.cons (ry.ex (Ex.new hq)) .nil))) (cb.trans (Chg.of (ec.trans (Ex.new hq)))) ((rnb.ex (ec.trans (Ex.new hq))).mono (by omega)) ⟨ps ++ [(nm, .mark)], by rw [List.map_append]; rfl, by rw [List.length_append, hl]; rfl, fun x hx => ?_⟩
      rcases List.mem_append.mp hx with hx | hx
      · exact hp x hx
      · rw [List.mem_singleton.mp hx]
        exact ⟨form_in.mp hnm, short_mark⟩
    · rintro q Hb es hq rq ⟨ps, rfl, hl, hp⟩ cb rnb
      rw [Int.toNat_natCast] at hl rnb
      refine run_tuple rq fun y Hc ec ry => run_catT (rx.ton ((rn8.tonC cb).trans (Ton.of ec)) (by simp [Dat.still, stillAll, still_rk])) ry (by simp; omega) fun v Hd ed rv => ?_
      exact fin v Hd (.made rk ps) (.made rk ps ⟨b, hx⟩ srk hl hp) rv ((rnb.ex (ec.trans ed)).mono (by omega))
  | false =>
    refine q_pass (eqS_f (K := K) (evd_var rfl (.str _)) (show ¬ formS false = "make" by decide +kernel)) fun H4 e4 => ?_
    have rn5 := rn4.ex e4
    refine q_setF (d := .lst ([Rk.mark, .num num, .times .mark (.num 3)].map Rk.d)) (evf_lst (eva3 (evd_tup (eva1 evd_str) (by simp)) (evd_var rfl (r9.ex e4)) (evd_tup (eva3 evd_str (evd_tup (eva1 evd_str) (by simp)) (evd_tup (eva2 evd_str evd_int) (by simp))) (by simp))) (by simp)) fun v13 H5 e5 r13 f13 => ?_
    obtain ⟨p13, rfl, fp13⟩ := f13 _ rfl
    have bp13 := rn5.back fp13
    have rn6 := rn5.ex e5
    have r5 := (r5.ex e4).ex e5
    have r8 := (r8.ex e4).ex e5
    have r2 := (r2.ex e4).ex e5
    have tiny0 : ∀ r, r ∈ ([Rk.mark, .num num, .times .mark (.num 3)] : List Rk) → TinyRk W (kk : Int) r := by
      intro r hr
      simp only [List.mem_cons, List.mem_nil_iff, or_false] at hr
      rcases hr with rfl | rfl | rfl
      · exact ⟨trivial, by simp [Rk.count], by simp [Rk.depth]⟩
      · exact ⟨num9, by simp [Rk.count], by simp [Rk.depth]⟩
      · exact ⟨⟨trivial, by show 3 ≤ 99; decide⟩, by simp [Rk.count], by simp [Rk.depth]⟩
    refine q_forTD (evd_var rfl r5) iT (still_map (fun _ => rfl) _) (fun i σ' H' => ∃ (x14 x15 : Option V) (p13 : Addr) (rs : List Rk), σ' = [some (.ref a), some (.ref t), some v2, some (.str s'), some (.int ((kk : Nat) : Int)), some v5, some (.str (formS false)), none, some (.ref p8), some (.ref q), none, none, none, some (.ref p13), x14, x15, none] ∧
      H p13 = none ∧ Run K a t ns H (n + 1) H' ∧ Rp K H' (.ref p13) (.lst (rs.map Rk.d)) ∧ Rp K H' (.ref p8) (.lst ((ofForm W (formS false)).map .str)) ∧ rs ≠ [] ∧ rs.length ≤ 3 + 3 * i ∧ ∀ r, r ∈ rs → TinyRk W (kk : Int) r) (fun H6 e6 => ⟨none, none, p13, _, rfl, bp13, rn6.ex e6, r13.ex e6, r8.ex e6, by simp, by simp, tiny0⟩) ?_ ?_
    · rintro i di z σ' H6 hi ⟨x14, x15, p13, rs, rfl, bp, rn7, r13, r8, ne, le, tiny⟩ rx
      obtain ⟨⟨o, pt⟩, ho, rfl⟩ := get_map hi
      have i3 : i < as.length := (List.getElem?_eq_some_iff.mp ho).1
      obtain ⟨mo, lo⟩ := al (o, pt) (List.mem_of_getElem? ho)
      obtain ⟨u14, u15, r14, r15, tg⟩ := tgt2 rx iT
      refine tg _ _ ?_
      have e14 := rp_str r14
      subst e14
      have e15 := rp_int r15
      subst e15
      refine d_when (b := decide (o ∈ ofForm W (formS false))) (et_T (evd_inS (K := K) (evd_var rfl (.str o)) (evd_var rfl r8) sL)) (fun hb H7 e7 => ?_) fun hb H7 e7 => ?_
      · have tl := form_in.mp (of_decide_eq_true hb)
        have gt : GoodRk W (kk : Int) (.tell o pt) := ⟨by omega, tl⟩
        have rn8 := rn7.ex e7
        have V14 : ∀ {H : Hp}, Evd K (tVar 14) [some (.ref a), some (.ref t), some v2, some (.str s'), some (.int ((kk : Nat) : Int)), some v5, some (.str (formS false)), none, some (.ref p8), some (.ref q), none, none, none, some (.ref p13), some (.str o), some (.int ((pt : Nat) : Int)), none] H (.str o) := evd_var rfl (.str o)
        refine q_setF (d := .lst ((rs ++ [Rk.tell o pt, Rk.plus .mark (.tell o pt)]).map Rk.d)) (evf_is (evf_cat (evd_var rfl (r13.ex e7)) (evf_lst (eva2 (evd_tup (eva3 evd_str (evd_var rfl (.str o)) (evd_var rfl (.int _))) (by simp)) (evd_tup (eva3 evd_str (evd_tup (eva1 evd_str) (by simp)) (evd_tup (eva3 evd_str (evd_var rfl (.str o)) (evd_var rfl (.int _))) (by simp))) (by simp))) (by simp)).dd (by simp; omega)) (by rw [List.map_append]; rfl)) fun w13 H8 e8 s13 f13 => ?_
        obtain ⟨q13, rfl, fq13⟩ := f13 _ rfl
        have bq := rn8.back fq13
        have rn9 := rn8.ex e8
        obtain ⟨_, ys, ey, hy, ry⟩ := rp_L s13
        cases ey
        have ly := rpAll_len ry
        rw [List.length_map, List.length_append] at ly
        simp only [List.length_cons, List.length_nil] at ly
        refine d_app (p := q13) rfl hy (by omega) (evd_tup (eva3 evd_str (evd_tup (eva3 evd_str (evd_var rfl (.str o)) (evd_var rfl (.int _))) (by simp)) (evd_tup (eva3 evd_str (evd_tup (eva2 evd_str evd_int) (by simp)) (evd_tup (eva3 evd_str (evd_var rfl (.str o)) (evd_var rfl (.int _))) (by simp))) (by simp))) (by simp)) (d := (Rk.plus (.tell o pt) (.times (.num 2) (.tell o pt))).d) fun v H9 e9 rv => ?_
        have hy9 := e9 _ _ hy
        have tu : Ton H9 (upd H9 q13 (.lst (ys ++ [v]))) := Ton.upd (Ton.refl H9) hy9
        refine ⟨(Ton.of ((e7.trans e8).trans e9)).trans tu, _, _, q13, (rs ++ [Rk.tell o pt, Rk.plus .mark (.tell o pt)]) ++ [.plus (.tell o pt) (.times (.num 2) (.tell o pt))], rfl, bq, (rn9.ex e9).mut bq, .lst upd_same ?_, ?_, by simp, by simp; omega, fun r hr => ?_⟩
        · rw [List.map_append]
          exact rpAll_app ((ry.ex e9).ton tu (still_map still_rk _)) (.cons (rv.ton tu (still_rk _)) .nil)
        · have n8 : q13 ≠ p8 := fun e => by
            obtain ⟨_, _, e', h, _⟩ := rp_L (r8.ex e7)
            cases e'
            subst e
            rw [h] at fq13
            cases fq13
          exact rp_upd (((r8.ex e7).ex e8).ex e9) n8 hy9 (still_strs _)
        · rcases List.mem_append.mp hr with hr | hr
          · rcases List.mem_append.mp hr with hr | hr
            · exact tiny r hr
            · simp only [List.mem_cons, List.mem_nil_iff, or_false] at hr
              rcases hr with rfl | rfl
              · exact ⟨gt, by simp [Rk.count], by simp [Rk.depth]⟩
              · exact ⟨⟨trivial, gt⟩, by simp [Rk.count], by simp [Rk.depth]⟩
          · rw [List.mem_singleton.mp hr]
            exact ⟨⟨gt, ⟨by show 2 ≤ 99; decide, gt⟩⟩, by simp [Rk.count], by simp [Rk.depth]⟩
      · exact ⟨Ton.of e7, _, _, p13, rs, rfl, bp, rn7.ex e7, r13.ex e7, r8.ex e7, ne, by omega, tiny⟩
    · rintro σ' H6 ⟨x14, x15, p13, rs, rfl, bp, rn7, r13, r8, ne, le, tiny⟩
      rw [List.length_map] at le
      have np13 : p13 ≠ t := by
        obtain ⟨k0, w0⟩ := rn7.was
        exact town_ne w0 bp
      have last : ∀ H7 σ7 (m : Nat) (p : Addr) (rs : List Rk), σ7[0]? = some (some (.ref a)) → σ7[1]? = some (some (.ref t)) → σ7[13]? = some (some (.ref p)) → p ≠ t → rs ≠ [] → rs.length ≤ 100 → m ≤ 18 → Run K a t ns H (n + m) H7 → Rp K H7 (.ref p) (.lst (rs.map Rk.d)) → (∀ r, r ∈ rs → TinyRk W (kk : Int) r) →
          tRet (tCall (sp__law_pick K w) [] E0 (tCons (tVar 0) (tCons (tVar 1) (tCons (tVar 13) tNil)))) { nx := fun _ H' => Q .non H', rt := Q } σ7 H7 := by
        intro H7 σ7 m p rs h0 h1 h13 np ne le hm rn r tiny
        refine x_ret (imp_pick h0 h1 rn (evn_var h13 r np) (by simpa using ne) (by rw [List.length_map]; omega) (still_map still_rk _) (by omega) fun v H8 d hd rd cb rnb => ?_)
        obtain ⟨x, hx', rfl⟩ := List.mem_map.mp hd
        exact fin v H8 (.reck x) (.reck x ⟨b, hx⟩ (tiny x hx').short) rd (rnb.mono (by omega))
      refine x_whenS (x_and (et_go (et_T (evd_gt (K := K) (evd_var rfl (.int ((kk : Nat) : Int))) evd_int)) fun H7 e7 => ?_))
      have rn8 := rn7.ex e7
      have r13 := r13.ex e7
      have r8 := r8.ex e7
      cases hk : decide ((0 : Int) < ((kk : Nat) : Int)) with
      | false => exact L2.iteF (L2.iteF (last H7 _ 1 p13 rs rfl rfl rfl np13 ne (by omega) (by omega) rn8 r13 tiny))
      | true =>
        have hk := of_decide_eq_true hk
        refine L2.iteT (imp_zero rfl rfl rn8 evd_int (by decide) (by decide) (by omega) fun bb H8 c8 rn9 => ?_)
        have r13 := rp_keep r13 np13 rn8 c8 (still_map still_rk _)
        have r8 := rp_keep r8 np8 rn8 c8 (still_strs _)
        cases bb with
        | false => exact L2.iteF (last H8 _ (1 + 1) p13 rs rfl rfl rfl np13 ne (by omega) (by omega) (rn9.mono (by omega)) r13 tiny)
        | true =>
          refine L2.iteT ?_
          have tk : ofForm W (formS false) ≠ [] := List.ne_nil_of_mem (form_in.mpr ⟨b, hx⟩)
          refine x_asg (x_tup3 (imp_pick rfl rfl rn9 (evn_var rfl r8 np8) (by simpa using tk) (by rw [List.length_map]; have := form_len gw (formS false); omega) (still_strs _) (by omega) fun v H9 d hd rd c9 rn10 => ?_))
          obtain ⟨o, ho, rfl⟩ := List.mem_map.mp hd
          have ev := rp_str rd
          subst ev
          have tl := form_in.mp ho
          refine imp_draw rfl rfl rn10 (evd_var rfl (.int ((kk : Nat) : Int))) hk (by omega) (by omega) fun z H10 z0 z1 c10 rn11 l hl => ?_
          obtain ⟨pt, rfl⟩ := Int.eq_ofNat_of_zero_le z0
          have r13 := (rp_keep (rp_keep r13 np13 rn9 c9 (still_map still_rk _)) np13 rn10 c10 (still_map still_rk _)).ex (Ex.new (o := .tup [.str "tell", .str o, .int ((pt : Nat) : Int)]) hl)
          have rn12 := rn11.ex (Ex.new (o := .tup [.str "tell", .str o, .int ((pt : Nat) : Int)]) hl)
          have rl : Rp K (upd H10 l (.tup [.str "tell", .str o, .int ((pt : Nat) : Int)])) (.ref l) (Rk.tell o pt).d := .tup (st_of upd_same) (.cons (.str _) (.cons (.str _) (.cons (.int _) .nil)))
          have gt : GoodRk W (kk : Int) (.tell o pt) := ⟨by omega, tl⟩
          refine d_setF (d := .lst ((rs ++ [Rk.tell o pt, Rk.plus .mark (.tell o pt), Rk.times (.tell o pt) (.num 2)]).map Rk.d)) (evf_is (evf_cat (evd_var rfl r13) (evf_lst (eva3 (evd_var rfl rl) (evd_tup (eva3 evd_str (evd_tup (eva1 evd_str) (by simp)) (evd_var rfl rl)) (by simp)) (evd_tup (eva3 evd_str (evd_var rfl rl) (evd_tup (eva2 evd_str evd_int) (by simp))) (by simp))) (by simp)).dd (by simp; omega)) (by rw [List.map_append]; rfl)) fun w13 H11 e11 s13 f13 => ?_
          obtain ⟨q13, rfl, fq13⟩ := f13 _ rfl
          refine last H11 _ (1 + 1 + 1 + 1) q13 _ rfl rfl rfl (town_ne rn12.now fq13) (by simp) (by simp; omega) (by omega) ((rn12.ex e11).mono (by omega)) s13 fun r hr => ?_
          rcases List.mem_append.mp hr with hr | hr
          · exact tiny r hr
          · simp only [List.mem_cons, List.mem_nil_iff, or_false] at hr
            rcases hr with rfl | rfl | rfl
            · exact ⟨gt, by simp [Rk.count], by simp [Rk.depth]⟩
            · exact ⟨⟨trivial, gt⟩, by simp [Rk.count], by simp [Rk.depth]⟩
            · exact ⟨⟨gt, by show 2 ≤ 99; decide⟩, by simp [Rk.count], by simp [Rk.depth]⟩
end
end Lib

namespace Lib
open PySem L2 PySem.Spec PyProof.Rows Evl
/-! ### asks in order -/
theorem leD_ask (x y : Str × Nat) : leD (askD x) (askD y) = !askLt y x := by
  unfold leD
  rw [PySem.W.dataLe_eq]
  rfl
theorem askLt_eq (x y : Str × Nat) : askLt x y = if x.1 = y.1 then decide (x.2 < y.2) else strLt x.1 y.1 := by
  unfold askLt
  simp only [Dat.out, outAll]
  rw [PySem.W.dataLt_pair (by simp [PySem.W.alike]) (by simp [PySem.W.alike])]
  by_cases h : x.1 = y.1
  · rw [if_pos (by simp [PyData.eqv, h]), if_pos h]
    by_cases h2 : x.2 = y.2
    · rw [if_pos (by simp [PyData.eqv, h2]), h2]
      exact (decide_eq_false (Nat.lt_irrefl _)).symm
    · rw [if_neg (by simp [PyData.eqv]; omega), PySem.W.dataLt_int]
      congr 1
      exact propext ⟨fun h => by omega, fun h => by omega⟩
  · rw [if_neg (by simp [PyData.eqv, h]), if_neg h, PySem.W.dataLt_str]
    rfl
theorem ask_total {x y : Str × Nat} (h : askLt y x = false) (n : x ≠ y) : askLt x y = true := by
  rw [askLt_eq] at h ⊢
  by_cases e : x.1 = y.1
  · rw [if_pos e.symm] at h
    rw [if_pos e]
    have h := of_decide_eq_false h
    have n2 : x.2 ≠ y.2 := fun z => n (by cases x; cases y; simp_all)
    exact decide_eq_true (by omega)
  · rw [if_neg fun z => e z.symm] at h
    rw [if_neg e]
    cases q : strLt x.1 y.1 with
    | true => rfl
    | false => exact absurd (str_anti (by rw [leD_str, h]; rfl) (by rw [leD_str, q]; rfl)) e
def ofAsk : Dat → Str × Nat
  | .tup (.str s :: .int i :: _) => (s, i.toNat)
  | _ => ("", 0)
theorem asks_up {es : List Dat} {as : List (Str × Nat)} (p : es.Perm (as.map askD)) (up : es.Pairwise fun a b => leD a b = true) (nd : as.Nodup) : ∃ bs : List (Str × Nat), es = bs.map askD ∧ bs.Perm as ∧ bs.Pairwise fun x y => askLt x y = true := by
  have g : ∀ l : List (Str × Nat), (l.map askD).map ofAsk = l := fun l => by
    rw [List.map_map]
    conv => rhs; rw [← List.map_id l]
    refine List.map_congr_left fun x _ => ?_
    simp [ofAsk]
  have e : es = (es.map ofAsk).map askD := by
    rw [List.map_map]
    conv => lhs; rw [← List.map_id es]
    refine List.map_congr_left fun x hx => ?_
    obtain ⟨y, _, rfl⟩ := List.mem_map.mp (p.mem_iff.mp hx)
    simp [ofAsk]
  have q := p.map ofAsk
  rw [g] at q
  refine ⟨es.map ofAsk, e, q, ?_⟩
  have nd' : (es.map ofAsk).Nodup := q.symm.nodup nd
  rw [e, List.pairwise_map] at up
  exact List.Pairwise.imp₂ (fun x y h n => ask_total (by rw [leD_ask, Bool.not_eq_true'] at h; exact h) n) up nd'
theorem shaped_asks {as : List (Str × Nat)} (h : ∀ x, x ∈ as → PyData.strOk x.1 = true) : SeqAt.shaped (Dat.lst (as.map askD)).out = true := by
  have q : ∀ ss : List (Str × Nat), (∀ s, s ∈ ss → PyData.strOk s.1 = true) → PyData.canLayAll0 (outAll (ss.map askD)) = true ∧ PyData.depthAll (outAll (ss.map askD)) ≤ 3 := by
    intro ns
    induction ns with
    | nil => simp [outAll, PyData.canLayAll0, PyData.depthAll]
    | cons n ns ih =>
      intro h
      obtain ⟨q1, q2⟩ := ih fun s m => h s (List.mem_cons_of_mem _ m)
      rw [List.map_cons, outAll, PyData.canLayAll0, q1, PyData.depthAll]
      have o := h n List.mem_cons_self
      exact ⟨by simp [Dat.out, outAll, PyData.canLay0, PyData.canLayAll0, o], by simp [Dat.out, outAll, PyData.depth, PyData.depthAll]; omega⟩
  obtain ⟨q1, q2⟩ := q as h
  simp only [SeqAt.shaped, Dat.out, PyData.canLay0, q1, PyData.depth, Bool.true_and, decide_eq_true_eq]
  omega
theorem shaped_ask {x : Str × Nat} (o : PyData.strOk x.1 = true) : SeqAt.shaped (askD x).out = true := by
  simp [SeqAt.shaped, Dat.out, outAll, PyData.canLay0, PyData.canLayAll0, o, PyData.depth, PyData.depthAll]
section
variable {K : PySem.W.Frag} {w : World} {a t p : Addr} {ns : List Int} {n m c : Nat} {H H' H0 H1 H2 : Hp} {σ : L2.St} {ta tr : TA} {tb te tl tm tj : TE} {d : Dat} {ds xs : List Dat} {D : Ends} {tz tu tw : TS} {g : TG} {tt tt2 : TT} {Q : VK}
theorem x_tupL (h : ta σ H fun xs H1 => xs.length ≤ sizeLine ∧ ∀ p, H1 p = none → Q (.ref p) (upd H1 p (.tup xs))) : tTup ta σ H Q := h
theorem x_cons {R : List V → Hp → Prop} (h : te σ H fun x H1 => tr σ H1 fun xs H2 => R (x :: xs) H2) : tCons te tr σ H R := h
theorem x_lcRD {vs : List Nat} (h : tl σ H fun v H1 => tLc (iRng1 (tCons (tC v) tNil)) g tt te vs σ H1 Q) : tLc (iRng1 (tCons tl tNil)) g tt te vs σ H Q := h
theorem x_var {i : Nat} {v : V} (hv : σ[i]? = some (some v)) (h : Q v H) : tVar i σ H Q := ⟨v, hv, h⟩
theorem x_lst2 (h : te σ H fun x H1 => tb σ H1 fun y H2 => ∀ p, H2 p = none → Q (.ref p) (upd H2 p (.lst [x, y]))) : tLst (tCons te (tCons tb tNil)) σ H Q := by
  show te σ H fun x H1 => tb σ H1 fun y H2 => _ ∧ _
  have e : (fun x H1 => tb σ H1 fun y H2 => [x, y].length ≤ sizeLine ∧ ∀ p, H2 p = none → Q (.ref p) (upd H2 p (.lst [x, y]))) = fun x H1 => tb σ H1 fun y H2 => ∀ p, H2 p = none → Q (.ref p) (upd H2 p (.lst [x, y])) := by
    funext x H1
    congr 1
    funext y H2
    exact propext ⟨fun h => h.2, fun h => ⟨by show 2 ≤ sizeLine; decide, h⟩⟩
  rw [e]
  exact h
theorem run_sorted {x : V} (r : Rp K H x (.lst ds)) (al : PySem.W.AllAlike (ds.map Dat.out)) (so : PySem.W.Sortable (ds.map Dat.out)) (dep : ∀ d, d ∈ ds → d.out.depth ≤ 10) (len : ds.length ≤ 1000) (k : ∀ v H2 es, Ex H H2 → Rp K H2 v (.lst es) → es.Perm ds → es.Pairwise (fun a b => leD a b = true) → Q v H2) : rSortedX K [x] H Q := by
  obtain ⟨a, xs, ea, ha, ra⟩ := rp_L r
  exact ⟨a, xs, ds, by rw [ea], SqL.of ha, ra, al, so, dep, by rw [rpAll_len ra]; exact len, fun ys es p hd pm pw hp => k _ _ es (Ex.new hp) (.lst upd_same (hd.ex (Ex.new hp))) pm pw⟩
def optV : Option Str → V
  | none => .non
  | some s => .str s
theorem rp_opt (o : Option Str) : Rp K H (optV o) (optD o) := by cases o <;> constructor
theorem if_opt {bb : Bool} {s : Str} {i : Nat} (hv : σ[i]? = some (some (.str s))) (k : ∀ lo : Option Str, (∀ z, lo = some z → z = s) → Q (optV lo) H) : if bb = true then tVar i σ H Q else tC .non σ H Q := by
  cases bb with
  | true => exact L2.iteT (x_var hv (k (some s) fun z e => (Option.some.inj e).symm))
  | false => exact L2.iteF (k none fun z e => nomatch e)
/-- the state of _law_instance's loop -/
structure InsI (K : PySem.W.Frag) (W : Wd) (a t p6 p7 : Addr) (ns : List Int) (v2 : V) (kk m i : Nat) (H H' : Hp) (ls : List (Option Str)) (as : List (Str × Nat)) (y6 y7 : List V) : Prop where
  rn : Run K a t ns H m H'
  r2 : Rp K H' v2 (worldD W)
  h6 : H' p6 = some (.lst y6)
  ry6 : RpAll K H' y6 (ls.map optD)
  ll : ls.length = i
  lcn : ∀ s, some s ∈ ls → s ∈ cn W
  h7 : H' p7 = some (.lst y7)
  ry7 : RpAll K H' y7 (as.map askD)
  la : as.length ≤ 3
  nd : as.Nodup
  al : ∀ x, x ∈ as → x.1 ∈ tn W ∧ x.2 < kk
theorem still_world (W : Wd) : (worldD W).still = true := by simp [Dat.still, stillAll, still_cons, still_traits]
theorem InsI.to {W : Wd} {p6 p7 : Addr} {v2 : V} {kk i m' : Nat} {ls : List (Option Str)} {as : List (Str × Nat)} {y6 y7 : List V} (I : InsI K W a t p6 p7 ns v2 kk m i H H1 ls as y6 y7) (np6 : p6 ≠ t) (np7 : p7 ≠ t) (cg : Chg t H1 H2) (rn : Run K a t ns H m' H2) : InsI K W a t p6 p7 ns v2 kk m' i H H2 ls as y6 y7 :=
  ⟨rn, I.r2.ton (I.rn.tonC cg) (still_world W), cg _ _ I.h6 np6, I.ry6.ton (I.rn.tonC cg) (still_map still_opt _), I.ll, I.lcn, cg _ _ I.h7 np7, I.ry7.ton (I.rn.tonC cg) (still_map (fun _ => rfl) _), I.la, I.nd, I.al⟩
theorem InsI.ex {W : Wd} {p6 p7 : Addr} {v2 : V} {kk i : Nat} {ls : List (Option Str)} {as : List (Str × Nat)} {y6 y7 : List V} (I : InsI K W a t p6 p7 ns v2 kk m i H H1 ls as y6 y7) (e : Ex H1 H2) : InsI K W a t p6 p7 ns v2 kk m i H H2 ls as y6 y7 :=
  ⟨I.rn.ex e, I.r2.ex e, e _ _ I.h6, I.ry6.ex e, I.ll, I.lcn, e _ _ I.h7, I.ry7.ex e, I.la, I.nd, I.al⟩
theorem InsI.mono {W : Wd} {p6 p7 : Addr} {v2 : V} {kk i m' : Nat} {ls : List (Option Str)} {as : List (Str × Nat)} {y6 y7 : List V} (I : InsI K W a t p6 p7 ns v2 kk m i H H1 ls as y6 y7) (h : m ≤ m') : InsI K W a t p6 p7 ns v2 kk m' i H H1 ls as y6 y7 :=
  ⟨I.rn.mono h, I.r2, I.h6, I.ry6, I.ll, I.lcn, I.h7, I.ry7, I.la, I.nd, I.al⟩
theorem InsI.put6 {W : Wd} {p6 p7 : Addr} {v2 v : V} {kk i : Nat} {ls : List (Option Str)} {as : List (Str × Nat)} {y6 y7 : List V} (I : InsI K W a t p6 p7 ns v2 kk m i H H1 ls as y6 y7) (bp : H p6 = none) (n67 : p6 ≠ p7) (lo : Option Str) (r : Rp K H1 v (optD lo)) (h : ∀ s, lo = some s → s ∈ cn W) :
    InsI K W a t p6 p7 ns v2 kk m (i + 1) H (upd H1 p6 (.lst (y6 ++ [v]))) (ls ++ [lo]) as (y6 ++ [v]) y7 := by
  have tn : Ton H1 (upd H1 p6 (.lst (y6 ++ [v]))) := Ton.upd (Ton.refl H1) I.h6
  refine ⟨I.rn.mut bp, I.r2.ton tn (still_world W), upd_same, ?_, by rw [List.length_append, I.ll]; rfl, fun s m => ?_, by rw [upd_ne (Ne.symm n67)]; exact I.h7, I.ry7.ton tn (still_map (fun _ => rfl) _), I.la, I.nd, I.al⟩
  · rw [List.map_append]
    exact rpAll_app (I.ry6.ton tn (still_map still_opt _)) (.cons (r.ton tn (still_opt lo)) .nil)
  · rcases List.mem_append.mp m with m | m
    · exact I.lcn s m
    · exact h s (List.mem_singleton.mp m).symm
theorem InsI.put7 {W : Wd} {p6 p7 : Addr} {v2 v : V} {kk i : Nat} {ls : List (Option Str)} {as : List (Str × Nat)} {y6 y7 : List V} (I : InsI K W a t p6 p7 ns v2 kk m i H H1 ls as y6 y7) (bp : H p7 = none) (n67 : p6 ≠ p7) (x : Str × Nat) (r : Rp K H1 v (askD x)) (h : x.1 ∈ tn W ∧ x.2 < kk) (few : as.length < 3) (new : ¬ x ∈ as) :
    InsI K W a t p6 p7 ns v2 kk m i H (upd H1 p7 (.lst (y7 ++ [v]))) ls (as ++ [x]) y6 (y7 ++ [v]) := by
  have tn : Ton H1 (upd H1 p7 (.lst (y7 ++ [v]))) := Ton.upd (Ton.refl H1) I.h7
  refine ⟨I.rn.mut bp, I.r2.ton tn (still_world W), by rw [upd_ne n67]; exact I.h6, I.ry6.ton tn (still_map still_opt _), I.ll, I.lcn, upd_same, ?_, by rw [List.length_append]; simp; omega, ?_, fun y m => ?_⟩
  · rw [List.map_append]
    exact rpAll_app (I.ry7.ton tn (still_map (fun _ => rfl) _)) (.cons (r.ton tn rfl) .nil)
  · rw [List.nodup_append]
    refine ⟨I.nd, by simp, fun a ha b hb => ?_⟩
    rw [List.mem_singleton.mp hb]
    intro e
    subst e
    exact new ha
  · rcases List.mem_append.mp m with m | m
    · exact I.al y m
    · rw [List.mem_singleton.mp m]
      exact h
theorem rd__law_instance : Keeps (sp__law_instance K w) N__law_instance (t__law_instance K w) := by
  rintro vs H Q E ⟨a, t, ns, n, vs', ds, c, P, rfl, tw, ra, nt, ⟨W, gw, rfl, rfl, rfl⟩, hn, k⟩
  obtain ⟨v2, rfl, r2⟩ := args1 ra
  have rn := Run.start tw
  have stW := still_world W
  have tl3 := tn_len gw
  have tpos : tn W ≠ [] := by
    have := gw.tra
    cases e : W.traits with
    | nil => rw [e] at this; cases this
    | cons x l => simp [tn, e]
  have rf := row_f gw.row
  refine x_asg (imp_pick rfl rfl rn (evn_lst (evf_call (eva1 (evd_var rfl r2)) ⟨W, gw, rfl, rfl⟩) rn.now) (by simpa using tpos) (by rw [List.length_map]; omega) (still_strs _) (by omega) fun v3 H1 d hd r3 c1 rn1 => ?_)
  obtain ⟨tr, htr, rfl⟩ := List.mem_map.mp hd
  have e3 := rp_str r3
  subst e3
  have r2 := r2.ton (rn.tonC c1) stW
  have lc := rf.few
  have lp := rf.pos
  refine x_asg (imp_pick rfl rfl rn1 (evn_lst (evf_list (ix0 (evd_var rfl r2)) sP) rn1.now) (by intro z; rw [List.map_eq_nil_iff] at z; rw [z] at lp; simp at lp) (by rw [List.length_map]; omega) (still_cons _) (by omega) fun v H2 d hd rv c2 rn2 => ?_)
  obtain ⟨⟨rt, kk⟩, hrt, rfl⟩ := List.mem_map.mp hd
  obtain ⟨u4, u5, r4, r5, tg⟩ := tgt2 rv iT
  refine tg _ _ ?_
  have e4 := rp_str r4
  subst e4
  have e5 := rp_int r5
  subst e5
  have k2 : kk ≤ 2 := by
    have q := rf.all _ hrt
    have q2 : allCons.all (fun c => decide (c.2 ≤ 2)) = true := by decide +kernel
    exact of_decide_eq_true (List.all_eq_true.mp q2 _ q)
  have r2 := r2.ton (rn1.tonC c2) stW
  refine q_parF (K := K) (evf_lst eva_nil) (evf_lst eva_nil) fun v6 v7 H4 H5 e4 e5 r6 r7 f6 f7 => ?_
  obtain ⟨p6, rfl, fp6⟩ := f6 _ rfl
  obtain ⟨p7, rfl, fp7⟩ := f7 _ rfl
  have np6 : p6 ≠ t := town_ne rn2.now fp6
  have bp6 : H p6 = none := rn2.back fp6
  have rn4 := rn2.ex e4
  have np7 : p7 ≠ t := town_ne rn4.now fp7
  have bp7 : H p7 = none := rn4.back fp7
  obtain ⟨_, y6, ee6, hp6, rr6⟩ := rp_L r6
  cases ee6
  cases rr6
  obtain ⟨_, y7, ee7, hp7, rr7⟩ := rp_L r7
  cases ee7
  cases rr7
  have n67 : p6 ≠ p7 := fun e => by subst e; rw [hp6] at fp7; cases fp7
  have hp6 := e5 _ _ hp6
  have rn5 := rn4.ex e5
  have r2 := (r2.ex e4).ex e5
  have I0 : InsI K W a t p6 p7 ns v2 kk (n + 1 + 1) 0 H H5 [] [] [] [] := ⟨rn5, r2, hp6, .nil, rfl, by simp, hp7, .nil, by simp, .nil, by simp⟩
  refine q_forRD (K := K) (evd_var rfl (.int _)) (by omega) (by omega) (fun i σ' H' => ∃ (x8 x9 x11 : Option V) (ls : List (Option Str)) (as : List (Str × Nat)) (y6 y7 : List V), σ' = [some (.ref a), some (.ref t), some v2, some (.str tr), some (.str rt), some (.int ((kk : Nat) : Int)), some (.ref p6), some (.ref p7), x8, x9, none, x11] ∧
      InsI K W a t p6 p7 ns v2 kk (n + 2 + i * 6) i H H' ls as y6 y7) (fun H6 e6 => ⟨none, none, none, [], [], [], [], rfl, (I0.ex e6).mono (by omega)⟩) ?_ ?_
  · rintro i σ' Ha hi ⟨x8, x9, x11, ls, as, y6, y7, rfl, Ia⟩
    have hi : i < kk := by omega
    have cpos : cn W ≠ [] := by intro z; rw [List.map_eq_nil_iff] at z; rw [z] at lp; simp at lp
    have lcn4 := cn_len gw
    refine x_asg (imp_pick rfl rfl Ia.rn (evn_lst (evf_cons gw (i := 2) (j := 10) rfl (by show 10 < 12; decide) (by decide) Ia.r2) Ia.rn.now) (by simpa using cpos) (by rw [List.length_map]; omega) (still_strs _) (by omega) fun v9 Hb d hd r9 cb rnb => ?_)
    obtain ⟨lm, hlm, rfl⟩ := List.mem_map.mp hd
    have e9 := rp_str r9
    subst e9
    have Ib := Ia.to np6 np7 cb rnb
    refine x_appS (p := p6) rfl Ib.h6 (x_if (imp_zero rfl rfl rnb evd_int (by decide) (by decide) (by omega) fun bb Hc cc rnc => ?_))
    have Ic := Ib.to np6 np7 cc rnc
    have l6 := rpAll_len Ic.ry6
    rw [List.length_map, Ic.ll] at l6
    refine if_opt rfl fun lo hlo => run_app Ic.h6 (by omega) ?_
    have Id := Ic.put6 bp6 n67 lo (rp_opt lo) fun s e => by rw [hlo s e]; exact hlm
    revert Id
    generalize upd Hc p6 (.lst (y6 ++ [optV lo])) = Hd
    intro Id
    refine x_forE (x_lst2 (x_var rfl (imp_pick rfl rfl Id.rn (evn_lst (evf_call (eva1 (evd_var rfl Id.r2)) ⟨W, gw, rfl, rfl⟩) Id.rn.now) (by simpa using tpos) (by rw [List.length_map]; omega) (still_strs _) (by omega) fun v He d hd rv ce rne q hq => ?_)))
    obtain ⟨tr2, htr2, rfl⟩ := List.mem_map.mp hd
    have ev := rp_str rv
    subst ev
    have Ie := (Id.to np6 np7 ce rne).ex (Ex.new (o := .lst [.str tr, .str tr2]) hq)
    have bq := rne.back hq
    have n6q : q ≠ p6 := fun e => by subst e; rw [(Id.to np6 np7 ce rne).h6] at hq; cases hq
    have n7q : q ≠ p7 := fun e => by subst e; rw [(Id.to np6 np7 ce rne).h7] at hq; cases hq
    have nqt : q ≠ t := town_ne rne.now hq
    refine d_forP (ds := [tr, tr2].map .str) upd_same (strs_rpAll [tr, tr2]) (still_strs _) (fun j σ' H' => j ≤ 2 ∧ ∃ (x11 : Option V) (as : List (Str × Nat)) (y7 : List V), σ' = [some (.ref a), some (.ref t), some v2, some (.str tr), some (.str rt), some (.int ((kk : Nat) : Int)), some (.ref p6), some (.ref p7), some (.int ((i : Nat) : Int)), some (.str lm), none, x11] ∧
      InsI K W a t p6 p7 ns v2 kk (n + 2 + i * 6 + 3 + j) (i + 1) H H' (ls ++ [lo]) as (y6 ++ [optV lo]) y7 ∧ H' q = some (.lst [.str tr, .str tr2])) ⟨by omega, _, as, y7, rfl, Ie.mono (by omega), upd_same⟩ (fun j σ' H' ⟨_, _, _, _, _, _, h⟩ => h) ?_ ?_
    · rintro j di x σ' Hf hj ⟨j2, x11, as, y7, rfl, If, hqf⟩ rx
      obtain ⟨nm, hnm, rfl⟩ := get_map hj
      have j1 : j < 2 := (List.getElem?_eq_some_iff.mp hnm).1
      have mnm : nm ∈ tn W := by
        have m := List.mem_of_getElem? hnm
        rcases List.mem_cons.mp m with e | m
        · rw [e]; exact htr
        · rw [List.mem_singleton.mp m]; exact htr2
      have ex := rp_str rx
      subst ex
      refine x_whenE (x_and (imp_zero rfl rfl If.rn evd_int (by decide) (by decide) (by omega) fun bb Hg cg rng => ?_))
      have Ig := If.to np6 np7 cg rng
      have hqg := cg _ _ hqf nqt
      cases bb with
      | false => exact L2.iteF (L2.iteF ⟨If.rn.tonC cg, by omega, _, as, y7, rfl, Ig.mono (by omega), hqg⟩)
      | true =>
        refine L2.iteT ?_
        have o : PyData.strOk nm = true := strOk_t (tn_in gw mnm)
        have r7 : Rp K Hg (.ref p7) (.lst (as.map askD)) := .lst Ig.h7 Ig.ry7
        refine et_go (et_and (et_T (evd_niD (K := K) (d := askD (nm, i)) (evd_tup (eva2 (evd_var rfl (.str nm)) (evd_var rfl (.int _))) (by simp)) (evd_var rfl r7) (shaped_ask o) (shaped_asks fun x hx => strOk_t (tn_in gw (Ig.al x hx).1)))) fun _ => et_T (evd_ltI (evd_len (evd_var rfl r7) sL) evd_int)) fun Hh eh => ?_
        have Ih := Ig.ex eh
        have hqh := eh _ _ hqg
        cases hb : ((!((as.map askD).any fun z => PyData.eqv z.out (askD (nm, i)).out)) && decide (((as.map askD).length : Int) < 3)) with
        | false => exact L2.iteF ⟨(If.rn.tonC cg).trans (Ton.of eh), by omega, _, as, y7, rfl, Ih.mono (by omega), hqh⟩
        | true =>
          rw [Bool.and_eq_true, Bool.not_eq_true', decide_eq_true_eq, List.length_map] at hb
          obtain ⟨h1, h2⟩ := hb
          have new : ¬ (nm, i) ∈ as := fun m => by
            rw [List.any_eq_false] at h1
            exact h1 (askD (nm, i)) (List.mem_map.mpr ⟨_, m, rfl⟩) (SeqAt.eqv_refl _ (lay_of (shaped_ask o)))
          have l7 := rpAll_len Ih.ry7
          rw [List.length_map] at l7
          refine L2.iteT (d_app (p := p7) rfl Ih.h7 (by omega) (evd_tup (eva2 (evd_var rfl (.str nm)) (evd_var rfl (.int ((i : Nat) : Int)))) (by simp)) fun v Hi ei rv => ?_)
          have Ii := (Ih.ex ei).put7 bp7 n67 (nm, i) rv ⟨mnm, hi⟩ (by omega) new
          have tn : Ton Hi (upd Hi p7 (.lst (y7 ++ [v]))) := Ton.upd (Ton.refl Hi) (ei _ _ Ih.h7)
          exact ⟨((If.rn.tonC cg).trans (Ton.of (eh.trans ei))).trans tn, by omega, _, _, _, rfl, Ii.mono (by omega), by rw [upd_ne n7q]; exact ei _ _ hqh⟩
    · rintro σ' Hf ⟨j2, x11, as, y7, rfl, If, hqf⟩
      exact ⟨_, _, _, _, _, _, _, rfl, If.mono (by simp only [List.length_map, List.length_cons, List.length_nil]; omega)⟩
  · rintro σ' Ha ⟨x8, x9, x11, ls, as, y6, y7, rfl, Ia⟩
    rw [Int.toNat_natCast] at Ia
    have r7 : Rp K Ha (.ref p7) (.lst (as.map askD)) := .lst Ia.h7 Ia.ry7
    have la := Ia.la
    refine x_asg (x_cb (x_cb (x_var rfl (run_sorted r7 ?_ ?_ ?_ (by rw [List.length_map]; omega) fun v Hb es eb rv pe ue => run_tuple rv fun v7 Hc ec r7 => ?_))))
    · rw [List.map_map]
      exact PySem.W.AllAlike.of fun x y => by simp [Dat.out, outAll, PySem.W.alike, PySem.W.alikeAll]
    · rw [List.map_map]
      exact PySem.W.Sortable.tuples fun x => ⟨_, _, rfl⟩
    · intro d m
      obtain ⟨x, _, rfl⟩ := List.mem_map.mp m
      simp [Dat.out, outAll, PyData.depth, PyData.depthAll]
    obtain ⟨bs, rfl, pb, ub⟩ := asks_up pe ue Ia.nd
    have Ic := (Ia.ex eb).ex ec
    have lb : bs.length ≤ 3 := by rw [pb.length_eq]; exact la
    have ab : ∀ x, x ∈ bs → x.1 ∈ tn W ∧ x.2 < kk := fun x hx => Ia.al x (pb.mem_iff.mp hx)
    have r6 : Rp K Hc (.ref p6) (.lst (ls.map optD)) := .lst Ic.h6 Ic.ry6
    refine x_ret (x_tupL (x_cons (x_var rfl (x_cons (x_var rfl (x_cons (x_cb (x_var rfl (run_tuple r6 fun v6 Hd ed r6 => x_cons (x_var rfl (x_cons (imp_call rfl rfl (Ic.rn.ex ed) (evn_of (eva4 (evd_var rfl (Ic.r2.ex ed)) (evd_var rfl (.str tr)) (evd_var rfl (.int _)) (evd_var rfl (r7.ex ed))) (by simp [Dat.isL])) ⟨W, tr, kk, bs, gw, htr, k2, lb, ab, rfl, rfl, rfl⟩ (by omega) fun v He d hd rv _ ce rne => ?_))))))))))))
    obtain ⟨b, gb, rfl⟩ := hd
    have rnd := Ic.rn.ex ed
    refine ⟨by show 5 ≤ sizeLine; decide, fun q hq => ?_⟩
    have ll := Ia.ll
    refine k _ _ (Ins.d ⟨tr, rt, ls, bs, b⟩) ⟨⟨tr, rt, ls, bs, b⟩, ⟨htr, by show (rt, ls.length) ∈ W.cons; rw [ll]; exact hrt, Ia.lcn, lb, fun x hx => by show x.1 ∈ tn W ∧ x.2 < ls.length; rw [ll]; exact ab x hx, ub, by show GoodB W tr ls.length b; rw [ll]; exact gb⟩, rfl⟩
      (.tup (st_of upd_same) (.cons (.str _) (.cons (.str _) (.cons ((r6.ton (rnd.tonC ce) (still_map still_opt _)).ex (Ex.new hq)) (.cons (((r7.ex ed).ton (rnd.tonC ce) (still_map (fun _ => rfl) _)).ex (Ex.new hq)) (.cons (rv.ex (Ex.new hq)) .nil)))))) (frs_not rfl) ?_ ?_
    · exact (rne.ex (Ex.new hq)).chg
    · exact ((rne.ex (Ex.new hq)).mono (by omega)).tw
theorem rd__law_set : Keeps (sp__law_set K w) N__law_set (t__law_set K w) := by
  rintro vs H Q E ⟨a, t, ns, n, vs', ds, c, P, rfl, tw, ra, nt, ⟨W, gw, rfl, rfl, rfl⟩, hn, k⟩
  obtain ⟨v2, v3, rfl, r2, r3⟩ := args2 ra
  have rn := Run.start tw
  have e3 := rp_int r3
  subst e3
  refine x_ret (x_cb (x_lcRD (imp_draw (M := 3) rfl rfl rn (evd_is (evd_add (K := K) (evd_var rfl (.int 2)) evd_int) rfl) (by decide) (by decide) (by omega) fun z H1 z0 z1 c1 rn1 => ?_)))
  refine imp_lcR (M := z) evd_int (by omega) z0 rn1 (fun i es => ∃ Is : List Ins, es = Is.map Ins.d ∧ Is.length = i ∧ ∀ I, I ∈ Is → GoodI W I) 50 ⟨[], rfl, rfl, by simp⟩ ?_ ?_ ?_
  · rintro i es ⟨Is, rfl, hl, _⟩
    exact ⟨still_map still_ins _, by rw [List.length_map]; omega⟩
  · rintro i Ha es R1 R2 hi ⟨Is, rfl, hl, good⟩ cA rnA q1 q2
    refine ⟨rfl, x_yes ?_⟩
    refine L2.iteT ?_
    refine imp_call rfl rfl rnA (evn_of (eva1 (evd_var rfl (r2.ton rnA.ton (still_world W)))) (by simp [Dat.isL])) ⟨W, gw, rfl, rfl, rfl⟩ (by omega) fun v Hc d hd rd _ cc rnc => ?_
    obtain ⟨I, gI, rfl⟩ := hd
    refine q1 v Hc I.d (still_ins I) rd cc (rnc.mono (by omega)) ⟨Is ++ [I], by rw [List.map_append]; rfl, by rw [List.length_append, hl]; rfl, fun J hJ => ?_⟩
    rcases List.mem_append.mp hJ with h | h
    · exact good J h
    · rw [List.mem_singleton.mp h]
      exact gI
  · rintro p H' es hp r ⟨Is, rfl, hl, good⟩ cg rn'
    refine run_tuple r fun v Hc ec rv => ?_
    have z2 : z.toNat ≤ 2 := by omega
    exact k v Hc (.tup (Is.map Ins.d)) ⟨Is, good, by omega, rfl⟩ rv (frs_not rfl) (rn'.ex ec).chg ((rn'.ex ec).mono (by omega)).tw
end
end Lib

namespace Lib
open PySem L2 PySem.Spec PyProof.Rows Evl
/-! ### homes -/
theorem flat_add {α β : Type} (f g : α → List β) : ∀ l : List α, (l.flatMap fun k => f k ++ g k).Perm (l.flatMap f ++ l.flatMap g)
  | [] => List.Perm.refl _
  | x :: l => by
    have ih := flat_add f g l
    simp only [List.flatMap_cons]
    refine (List.Perm.append_left (f x ++ g x) ih).trans ?_
    rw [List.append_assoc, List.append_assoc]
    refine List.Perm.append_left (f x) ?_
    rw [← List.append_assoc, ← List.append_assoc]
    exact List.Perm.append_right _ List.perm_append_comm
theorem flat_nil {α β : Type} {f : α → List β} : ∀ {l : List α}, (∀ x, x ∈ l → f x = []) → l.flatMap f = []
  | [], _ => rfl
  | x :: l, h => by rw [List.flatMap_cons, h x List.mem_cons_self, flat_nil fun y m => h y (List.mem_cons_of_mem _ m)]; rfl
theorem flat_one (n c : Nat) : ∀ M : Nat, c < M → (List.range M).flatMap (fun k => if c = k then [n] else []) = [n]
  | 0, h => absurd h (by omega)
  | M + 1, h => by
    rw [List.range_succ, List.flatMap_append]
    by_cases e : c = M
    · subst e
      rw [flat_nil fun x m => by rw [if_neg]; have := List.mem_range.mp m; omega]
      simp
    · rw [flat_one n c M (by omega)]
      simp [e]
theorem home_perm (h : Nat → Nat) (M : Nat) : ∀ n : Nat, (∀ q, q < n → h q < M) → ((List.range M).flatMap fun k => (List.range n).filter fun q => decide (h q = k)).Perm (List.range n)
  | 0, _ => by
    rw [flat_nil (f := fun k => (List.range 0).filter fun q => decide (h q = k)) fun x _ => rfl]
    exact List.Perm.refl _
  | n + 1, hh => by
    have ih := home_perm h M n fun q hq => hh q (by omega)
    have e : (fun k => (List.range (n + 1)).filter fun q => decide (h q = k)) = fun k => ((List.range n).filter fun q => decide (h q = k)) ++ if h n = k then [n] else [] := by
      funext k
      rw [List.range_succ, List.filter_append]
      congr 1
      by_cases z : h n = k <;> simp [z]
    rw [e]
    refine (flat_add _ _ _).trans ?_
    rw [flat_one n (h n) M (hh n (by omega)), List.range_succ]
    exact List.Perm.append_right _ ih
theorem flat_perm {α β : Type} {f g : α → List β} : ∀ {l : List α}, (∀ x, x ∈ l → (f x).Perm (g x)) → (l.flatMap f).Perm (l.flatMap g)
  | [], _ => List.Perm.refl _
  | x :: l, h => by
    rw [List.flatMap_cons, List.flatMap_cons]
    exact List.Perm.append (h x List.mem_cons_self) (flat_perm fun y m => h y (List.mem_cons_of_mem _ m))
theorem range_getD (l : List Str) : (List.range l.length).map (fun q => l.getD q "") = l := by
  refine List.ext_getElem? fun i => ?_
  rw [List.getElem?_map]
  by_cases h : i < l.length
  · rw [List.getElem?_range h, List.getElem?_eq_getElem h]
    simp [List.getD_eq_getElem?_getD, List.getElem?_eq_getElem h]
  · rw [List.getElem?_eq_none (l := List.range l.length) (by rw [List.length_range]; omega), List.getElem?_eq_none (by omega)]
    rfl
theorem range_modAt (L : List Mo) : (List.range L.length).map (modAt L) = L := by
  refine List.ext_getElem? fun i => ?_
  rw [List.getElem?_map]
  by_cases h : i < L.length
  · rw [List.getElem?_range h, mod_at h]
    rfl
  · rw [List.getElem?_eq_none (l := List.range L.length) (by rw [List.length_range]; omega), List.getElem?_eq_none (by omega)]
    rfl
def conAt (W : Wd) (hs : List Nat) (k : Nat) : List Str := ((List.range (cn W).length).filter fun q => decide (hs.getD q 0 = k)).map fun q => (cn W).getD q ""
def traAt (W : Wd) (hs : List Nat) (k : Nat) : List Str := ((List.range (tn W).length).filter fun q => decide (hs.getD ((cn W).length + q) 0 = k)).map fun q => (tn W).getD q ""
theorem con_sub (W : Wd) (hs : List Nat) (k : Nat) : (conAt W hs k).Sublist (cn W) := by
  have q := (List.filter_sublist (l := List.range (cn W).length) (p := fun q => decide (hs.getD q 0 = k))).map fun q => (cn W).getD q ""
  rw [range_getD] at q
  exact q
theorem tra_sub (W : Wd) (hs : List Nat) (k : Nat) : (traAt W hs k).Sublist (tn W) := by
  have q := (List.filter_sublist (l := List.range (tn W).length) (p := fun q => decide (hs.getD ((cn W).length + q) 0 = k))).map fun q => (tn W).getD q ""
  rw [range_getD] at q
  exact q
theorem up_of {zs : List Str} (up : (zs.map Dat.str).Pairwise fun a b => leD a b = true) (nd : zs.Nodup) : zs.Pairwise fun a b => strLt a b = true := by
  rw [List.pairwise_map] at up
  refine List.Pairwise.imp₂ (fun a b h n => ?_) up nd
  rw [leD_str, Bool.not_eq_true'] at h
  cases q : strLt a b with
  | true => rfl
  | false => exact absurd (str_anti (by rw [leD_str, h]; rfl) (by rw [leD_str, q]; rfl)) n
structure LibI (W : Wd) (hs : List Nat) (i : Nat) (L : List Mo) : Prop where
  len : L.length = i
  mods : ∀ (j : Nat) m, L[j]? = some m → GoodM W j m ∧ m.cons = conAt W hs j ∧ m.traits.Perm (traAt W hs j)
theorem lib_good {W : Wd} {hs : List Nat} {M : Nat} {L : List Mo} (gw : GoodW W) (I : LibI W hs M L) (m1 : 1 ≤ M) (m5 : M ≤ 5) (hl : hs.length = (cn W).length + (tn W).length) (hh : ∀ h, h ∈ hs → h < M) : GoodN W L := by
  have hg : ∀ q, q < (cn W).length + (tn W).length → hs.getD q 0 < M := fun q hq => by
    rw [List.getD_eq_getElem?_getD, List.getElem?_eq_getElem (by omega)]
    exact hh _ (List.getElem_mem (by omega))
  refine ⟨⟨by rw [I.len]; exact m1, by rw [I.len]; exact m5, fun i m h => (I.mods i m h).1⟩, ?_, ?_⟩
  · have e : L.flatMap Mo.cons = (List.range M).flatMap (conAt W hs) := by
      conv => lhs; rw [← range_modAt L]
      rw [List.flatMap_map, I.len]
      have : ∀ l : List Nat, (∀ x, x ∈ l → x < M) → (l.flatMap fun a => (modAt L a).cons) = l.flatMap (conAt W hs) := by
        intro l
        induction l with
        | nil => intro _; rfl
        | cons x l ih =>
          intro h
          rw [List.flatMap_cons, List.flatMap_cons, ih fun y m => h y (List.mem_cons_of_mem _ m), (I.mods x _ (mod_at (by rw [I.len]; exact h x List.mem_cons_self))).2.1]
      exact this _ fun x m => List.mem_range.mp m
    rw [e]
    have q := (home_perm (fun q => hs.getD q 0) M (cn W).length fun q hq => hg q (by omega)).map fun q => (cn W).getD q ""
    rw [List.map_flatMap, range_getD] at q
    exact q
  · have e : (L.flatMap Mo.traits).Perm ((List.range M).flatMap (traAt W hs)) := by
      conv => lhs; rw [← range_modAt L]
      rw [List.flatMap_map, I.len]
      exact flat_perm fun x m => (I.mods x _ (mod_at (by rw [I.len]; exact List.mem_range.mp m))).2.2
    refine e.trans ?_
    have q := (home_perm (fun q => hs.getD ((cn W).length + q) 0) M (tn W).length fun q hq => hg _ (by omega)).map fun q => (tn W).getD q ""
    rw [List.map_flatMap, range_getD] at q
    exact q
section
variable {K : PySem.W.Frag} {w : World} {a t p : Addr} {ns : List Int} {n m c : Nat} {H H' H0 H1 H2 : Hp} {σ : L2.St} {ta tr : TA} {tb te tl tm tj : TE} {d : Dat} {ds xs : List Dat} {D : Ends} {tz tu tw : TS} {g : TG} {tt tt2 : TT} {Q : VK}
theorem x_tC {v : V} (h : Q v H) : tC v σ H Q := h
theorem imp_pos {M : Int} {E : XK} {R : Bool → Hp → Prop} (h0 : σ[0]? = some (some (.ref a))) (h1 : σ[1]? = some (some (.ref t))) (rn : Run K a t ns H0 n H) (hm : Evd K tm σ H (.int M)) (m0 : 0 < M) (m1 : M ≤ 1000) (hn : n + 1 ≤ 100000)
    (k : ∀ b H2, Chg t H H2 → Run K a t ns H0 (n + 1) H2 → R b H2) : tTest (tOp rGt (tCall (sp__law_draw K w) [] E (tCons (tVar 0) (tCons (tVar 1) (tCons tm tNil)))) (tC (.int 0))) σ H R :=
  imp_draw h0 h1 rn hm m0 m1 hn fun r H2 _ _ cg rn' => ⟨r, 0, rfl, rfl, _, rfl, k _ H2 cg rn'⟩
theorem if_set {W : Wd} {E : XK} {kk i : Nat} {v : V} (gw : GoodW W) (h0 : σ[0]? = some (some (.ref a))) (h1 : σ[1]? = some (some (.ref t))) (h2 : σ[2]? = some (some v)) (hi : σ[i]? = some (some (.int (kk : Nat)))) (rv : Rp K H v (worldD W)) (rn : Run K a t ns H0 n H) (hn : n + 200 ≤ 100000)
    (k : ∀ v H2 (Is : List Ins), (∀ I, I ∈ Is → GoodI W I) → Is.length ≤ 4 → Rp K H2 v (.tup (Is.map Ins.d)) → Chg t H H2 → Run K a t ns H0 (n + 200) H2 → Q v H2) :
    tIf (tTest (tOp rGt (tVar i) (tC (.int 0)))) (tCall (sp__law_set K w) [] E (tCons (tVar 0) (tCons (tVar 1) (tCons (tVar 2) (tCons (tC (.int 2)) tNil))))) (tTup tNil) σ H Q := by
  refine x_if (et_go (et_T (evd_gt (K := K) (evd_var hi (.int _)) evd_int)) fun H1 e1 => ?_)
  cases decide ((0 : Int) < ((kk : Nat) : Int)) with
  | true =>
    refine L2.iteT (imp_call h0 h1 (rn.ex e1) (evn_of (eva2 (evd_var h2 (rv.ex e1)) evd_int) (by simp [Dat.isL])) ⟨W, gw, rfl, rfl, rfl⟩ hn fun v H2 d hd rd _ cg rn' => ?_)
    obtain ⟨Is, gI, l4, rfl⟩ := hd
    exact k v H2 Is gI l4 rd ((Chg.of e1).trans cg) rn'
  | false =>
    refine L2.iteF ((evd_tup (K := K) eva_nil).go fun v H2 e2 r => ?_)
    exact k v H2 [] (by simp) (by simp) r (Chg.of (e1.trans e2)) (((rn.ex e1).ex e2).mono (by omega))
theorem dec_nat (x y : Nat) : decide (((x : Nat) : Int) = ((y : Nat) : Int)) = decide (x = y) := by
  congr 1
  exact propext ⟨fun h => by omega, fun h => by omega⟩
theorem rd__law_library : Keeps (sp__law_library K w) N__law_library (t__law_library K w) := by
  rintro vs H Q E ⟨a, t, ns, n, vs', ds, c, P, rfl, tw, ra, nt, ⟨W, gw, rfl, rfl, rfl⟩, hn, k⟩
  obtain ⟨v2, rfl, r2⟩ := args1 ra
  have rn := Run.start tw
  have stW := still_world W
  have nc := cn_len gw
  have nt3 := tn_len gw
  refine x_asg (x_tup2 (x_op (x_tC (imp_draw rfl rfl rn evd_int (by decide) (by decide) (by omega) fun r H1 r0 r1 c1 rn1 => .inl ⟨1, r, rfl, rfl, (evf_lst (K := K) eva_nil).go fun v4 H2 e2 r4 f4 q hq => ?_⟩))))
  obtain ⟨j, rfl⟩ := Int.eq_ofNat_of_zero_le r0
  obtain ⟨p4, rfl, fp4⟩ := f4 _ rfl
  have np4 : p4 ≠ t := town_ne rn1.now fp4
  have bp4 : H p4 = none := rn1.back fp4
  have rn2 := (rn1.ex e2).ex (Ex.new (o := .tup [.int (1 + ((j : Nat) : Int)), .ref p4]) hq)
  have r2 : Rp K (upd H2 q (.tup [.int (1 + ((j : Nat) : Int)), .ref p4])) v2 (worldD W) := ((r2.ton (rn.tonC c1) stW).ex e2).ex (Ex.new hq)
  have r4 : Rp K (upd H2 q (.tup [.int (1 + ((j : Nat) : Int)), .ref p4])) (.ref p4) (.lst []) := r4.ex (Ex.new hq)
  refine ⟨q, [.int (1 + ((j : Nat) : Int)), .ref p4], rfl, st_of upd_same, rfl, _, _, rfl, _, _, rfl, rfl, ?_⟩
  revert rn2 r2 r4
  generalize upd H2 q (.tup [.int (1 + ((j : Nat) : Int)), .ref p4]) = G
  rw [show (1 + ((j : Nat) : Int)) = ((j + 1 : Nat) : Int) by omega]
  have j4 : j + 1 ≤ 4 := by omega
  have j0 : 1 ≤ j + 1 := by omega
  generalize j + 1 = M at j4 j0
  intro rn2 r2 r4
  have hlen : ((cn W).length : Int) + ((tn W).length : Int) = (((cn W).length + (tn W).length : Nat) : Int) := by omega
  refine x_asg (imp_lcR (M := (((cn W).length + (tn W).length : Nat) : Int)) (evd_is (evd_add (evd_len (ix0 (evd_var rfl r2)) sP) (evd_len (ix1 (evd_var rfl r2)) sT)) (by rw [List.length_map, List.length_map, ← hlen, List.length_map, List.length_map])) (by omega) (by omega) rn2
    (fun i es => ∃ hs : List Nat, es = hs.map natD ∧ hs.length = i ∧ ∀ h, h ∈ hs → h < M) 1 ⟨[], rfl, rfl, by simp⟩ ?_ ?_ ?_)
  · rintro i es ⟨hs, rfl, hl, _⟩
    exact ⟨still_nats _, by rw [List.length_map]; omega⟩
  · rintro i Ha es R1 R2 hi ⟨hs, rfl, hl, hh⟩ cA rnA q1 q2
    refine ⟨rfl, x_yes ?_⟩
    refine L2.iteT ?_
    refine imp_draw rfl rfl rnA (evd_var rfl (.int ((M : Nat) : Int))) (by omega) (by omega) (by omega) fun r Hb r0 r1 cb rnb => ?_
    obtain ⟨z, rfl⟩ := Int.eq_ofNat_of_zero_le r0
    refine q1 _ Hb (natD z) rfl (.int _) cb (rnb.mono (by omega)) ⟨hs ++ [z], by rw [List.map_append]; rfl, by rw [List.length_append, hl]; rfl, fun y hy => ?_⟩
    rcases List.mem_append.mp hy with hy | hy
    · exact hh y hy
    · rw [List.mem_singleton.mp hy]
      omega
  rintro p5 H3 es fp5 r5 ⟨hs, rfl, hl, hh⟩ c3 rn3
  rw [Int.toNat_natCast] at hl rn3
  have np5 : p5 ≠ t := town_ne rn2.now fp5
  have n45 : p4 ≠ p5 := fun e => by
    obtain ⟨_, _, e', h, _⟩ := rp_L r4
    cases e'
    subst e
    rw [h] at fp5
    cases fp5
  have r4 := rp_keep r4 np4 rn2 c3 rfl
  have r2 := r2.ton (rn2.tonC c3) stW
  obtain ⟨_, y4, e4', h4, ry4⟩ := rp_L r4
  cases e4'
  cases ry4
  refine q_forRD (K := K) (evd_var rfl (.int ((M : Nat) : Int))) (by omega) (by omega) (fun i σ' H' => ∃ (x6 x7 x9 x12 x13 : Option V) (L : List Mo) (ys : List V), σ' = [some (.ref a), some (.ref t), some v2, some (.int ((M : Nat) : Int)), some (.ref p4), some (.ref p5), x6, x7, none, x9, none, none, x12, x13] ∧ Run K a t ns H (n + 8 + i * 205) H' ∧
      Rp K H' v2 (worldD W) ∧ Rp K H' (.ref p5) (.lst (hs.map natD)) ∧ H' p4 = some (.lst ys) ∧ RpAll K H' ys (L.map Mo.d) ∧ LibI W hs i L)
    (fun H6 e6 => ⟨none, none, none, none, none, [], [], rfl, (rn3.ex e6).mono (by omega), r2.ex e6, r5.ex e6, e6 _ _ h4, .nil, rfl, by simp⟩) ?_ ?_
  · rintro i σ' Ha hi ⟨x6, x7, x9, x12, x13, L, ys, rfl, rna, r2, r5, h4, ry4, LI⟩
    have hi : i < M := by omega
    have ll := LI.len
    have ly := rpAll_len ry4
    rw [List.length_map, ll] at ly
    -- imports
    refine x_asg (x_cb (imp_lcR (M := (i : Int)) (evd_var rfl (.int _)) (by omega) (by omega) rna (fun q es => ∃ js : List Nat, es = js.map natD ∧ js.Pairwise (· < ·) ∧ (∀ x, x ∈ js → x < q) ∧ js.length ≤ q) 1 ⟨[], rfl, .nil, by simp, by simp⟩ ?_ ?_ ?_))
    · rintro q es ⟨js, rfl, _, _, lj⟩
      exact ⟨still_nats _, by rw [List.length_map]; exact lj⟩
    · rintro q Hb es R1 R2 hq ⟨js, rfl, uj, mj, lj⟩ cb rnb q1 q2
      refine ⟨rfl, imp_pos rfl rfl rnb evd_int (by decide) (by decide) (by omega) fun b Hc cc rnc => ?_⟩
      cases b with
      | true =>
        refine L2.iteT ⟨_, rfl, q1 _ Hc (natD q) rfl (.int _) cc (rnc.mono (by omega)) ⟨js ++ [q], by rw [List.map_append]; rfl, ?_, fun x hx => ?_, by rw [List.length_append]; simp; omega⟩⟩
        · rw [List.pairwise_append]
          exact ⟨uj, List.pairwise_singleton _ _, fun x hx y hy => by rw [List.mem_singleton.mp hy]; exact mj x hx⟩
        · rcases List.mem_append.mp hx with hx | hx
          · have := mj x hx
            omega
          · rw [List.mem_singleton.mp hx]
            omega
      | false => exact L2.iteF (q2 Hc cc (rnc.mono (by omega)) ⟨js, rfl, uj, fun x hx => by have := mj x hx; omega, by omega⟩)
    rintro q Hb es fq rq ⟨js, rfl, uj, mj, lj⟩ cb rnb
    rw [Int.toNat_natCast] at rnb
    rw [Int.toNat_natCast] at mj lj
    refine run_tuple rq fun v7 Hc ec r7 => ?_
    have rnc := rnb.ex ec
    have tc : Ton Ha Hc := (rna.tonC cb).trans (Ton.of ec)
    have r2 := r2.ton tc stW
    have r5 := (rp_keep r5 np5 rna cb (still_nats _)).ex ec
    have h4 := ec _ _ (cb _ _ h4 np4)
    have ry4 := ry4.ton tc (still_map still_mo _)
    have atH : ∀ q, q < (cn W).length + (tn W).length → (hs.map natD)[q]? = some (natD (hs.getD q 0)) := fun q hq => by
      rw [List.getElem?_map, List.getD_eq_getElem?_getD, List.getElem?_eq_getElem (by omega)]
      rfl
    -- roots
    have src := src_enum (K := K) (σ := [some (.ref a), some (.ref t), some v2, some (.int ((M : Nat) : Int)), some (.ref p4), some (.ref p5), some (.int ((i : Nat) : Int)), some v7, none, x9, none, none, x12, x13]) (H := Hc) (tl := tOp (rIx K) (tVar 2) (tC (.int 0))) (ix0 (evd_var rfl r2)) pT
    rw [enum_range] at src
    refine q_set (evd_is (evd_tuple (evf_lcF _ (fun q => .str ((cn W).getD q "")) (fun q => decide (hs.getD q 0 = i)) src (by rw [List.length_range, List.length_map]; have := (row_f gw.row).few; omega) (fun _ _ => rfl) fun q hq x Hd ed rx => ?_).dd) (e := .tup ((conAt W hs i).map .str)) (by
      unfold conAt
      rw [List.map_map, List.length_map, List.length_map]
      rfl)) fun v9 Hd ed r9 => ?_
    · have hq := List.mem_range.mp hq
      rw [List.length_map] at hq
      obtain ⟨u10, u11, s10, s11, tg⟩ := tgt2 rx iT
      have e11 : (W.cons.map consD).getD q .non = consD W.cons[q] := by
        rw [List.getD_eq_getElem?_getD, List.getElem?_map, List.getElem?_eq_getElem hq]
        rfl
      have e12 : (cn W).getD q "" = W.cons[q].1 := by
        rw [List.getD_eq_getElem?_getD]
        show ((W.cons.map (·.1))[q]?).getD ("" : Str) = _
        rw [List.getElem?_map, List.getElem?_eq_getElem hq]
        rfl
      rw [e11] at s11
      refine ⟨_, tg _, rfl, et_is (et_T (evd_eqI (evd_ix q (evd_var rfl (r5.ex ed)) (evd_var rfl s10) sL rfl (atH q (by rw [List.length_map]; omega))) (evd_var rfl (.int _)))) (dec_nat _ _), fun _ => ?_⟩
      rw [e12]
      exact ix0 (evd_var rfl s11)
    have rnd := rnc.ex ed
    have r2 := r2.ex ed
    have r5 := r5.ex ed
    have src := src_enum (K := K) (σ := [some (.ref a), some (.ref t), some v2, some (.int ((M : Nat) : Int)), some (.ref p4), some (.ref p5), some (.int ((i : Nat) : Int)), some v7, none, some v9, none, none, x12, x13]) (H := Hd) (tl := tOp (rIx K) (tVar 2) (tC (.int 1))) (ix1 (evd_var rfl r2)) iT
    rw [enum_range] at src
    refine x_asg (x_cb (x_cb ((evf_is (evf_lcF _ (fun q => .str ((tn W).getD q "")) (fun q => decide (hs.getD ((cn W).length + q) 0 = i)) src (by rw [List.length_range, List.length_map]; have := gw_few gw; omega) (fun _ _ => rfl) fun q hq x He ee rx => ?_) (e := .lst ((traAt W hs i).map .str)) (by
      unfold traAt
      rw [List.map_map, List.length_map, List.length_map, List.length_map]
      rfl)).go fun v He ee rv fv => ?_)))
    · have hq := List.mem_range.mp hq
      rw [List.length_map] at hq
      obtain ⟨u10, u11, s10, s11, tg⟩ := tgt2 rx iT
      have e11 : (W.traits.map traitD).getD q .non = traitD W.traits[q] := by
        rw [List.getD_eq_getElem?_getD, List.getElem?_map, List.getElem?_eq_getElem hq]
        rfl
      have e12 : (tn W).getD q "" = W.traits[q].1 := by
        rw [List.getD_eq_getElem?_getD]
        show ((W.traits.map (·.1))[q]?).getD ("" : Str) = _
        rw [List.getElem?_map, List.getElem?_eq_getElem hq]
        rfl
      rw [e11] at s11
      refine ⟨_, tg _, rfl, et_is (et_T (evd_eqI (evd_ix ((cn W).length + q) (evd_var rfl (r5.ex ee)) (evd_add (evd_len (ix0 (evd_var rfl (r2.ex ee))) sP) (evd_var rfl s10)) sL (by rw [List.length_map, List.length_map]; omega) (atH _ (by rw [List.length_map (as := W.traits)]; omega))) (evd_var rfl (.int _)))) (dec_nat _ _), fun _ => ?_⟩
      rw [e12]
      exact ix0 (evd_var rfl s11)
    have tl := (tra_sub W hs i).length_le
    refine run_sortedS rv (by omega) fun v' Hf zs ef rz pz wz => run_tuple rz fun v12 Hg eg r12 => ?_
    have ex := (ee.trans ef).trans eg
    have rng := rnd.ex ex
    refine x_asg (if_set gw rfl rfl rfl rfl (r2.ex ex) rng (by omega) fun v13 Hh Is gI l4 r13 ch rnh => ?_)
    have tch : Ton Hc Hh := ((Ton.of (ed.trans ex))).trans (rng.tonC ch)
    have tA : Ton Ha Hh := tc.trans tch
    have r2 := (r2.ex ex).ton (rng.tonC ch) stW
    have r5 := rp_keep (r5.ex ex) np5 rng ch (still_nats _)
    have h4h := ch _ _ ((ed.trans ex) _ _ h4) np4
    have ry4h := ry4.ton tch (still_map still_mo _)
    have r7 := r7.ton tch (by rw [Dat.still]; exact still_nats _)
    have r9 := (r9.ex ex).ton (rng.tonC ch) (by rw [Dat.still]; exact still_strs _)
    have r12 := r12.ton (rng.tonC ch) (by rw [Dat.still]; exact still_strs _)
    refine d_app (p := p4) rfl h4h (by omega) (evd_tup (eva4 (evd_var rfl r7) (evd_var rfl r9) (evd_var rfl r12) (evd_var rfl r13)) (by simp)) (d := Mo.d ⟨js, conAt W hs i, zs, Is⟩) fun v Hi ei rv => ?_
    have hi4 := ei _ _ h4h
    have tu : Ton Hi (upd Hi p4 (.lst (ys ++ [v]))) := Ton.upd (Ton.refl Hi) hi4
    have cu := con_sub W hs i
    have tu' := tra_sub W hs i
    have up := up_of wz (pz.symm.nodup (tu'.nodup (tn_nd gw)))
    refine ⟨_, _, _, _, _, L ++ [⟨js, conAt W hs i, zs, Is⟩], ys ++ [v], rfl, ((rnh.ex ei).mut bp4).mono (by omega), (r2.ex ei).ton tu stW, rp_upd (r5.ex ei) n45 hi4 (still_nats _), upd_same, ?_, by rw [List.length_append, ll]; rfl, fun j m hm => ?_⟩
    · rw [List.map_append]
      exact rpAll_app ((ry4h.ex ei).ton tu (still_map still_mo _)) (.cons (rv.ton tu (still_mo _)) .nil)
    · by_cases hj : j < L.length
      · rw [List.getElem?_append_left hj] at hm
        exact LI.mods j m hm
      · have hl2 := (List.getElem?_eq_some_iff.mp hm).1
        rw [List.length_append] at hl2
        simp only [List.length_cons, List.length_nil] at hl2
        have ej : j = i := by omega
        subst ej
        rw [List.getElem?_append_right (by omega), ll, Nat.sub_self] at hm
        cases hm
        exact ⟨⟨mj, uj, fun s hs' => cu.mem hs', (cn_up gw).sublist cu, fun s hs' => tu'.mem (pz.mem_iff.mp hs'), up, l4, gI⟩, rfl, pz⟩
  · rintro σ' Ha ⟨x6, x7, x9, x12, x13, L, ys, rfl, rna, r2, r5, h4, ry4, LI⟩
    rw [Int.toNat_natCast] at LI rna
    have r4 : Rp K Ha (.ref p4) (.lst (L.map Mo.d)) := .lst h4 ry4
    refine x_ret (x_cb (x_var rfl (run_tuple r4 fun v Hb eb rv => ?_)))
    exact k v Hb (libD L) ⟨L, lib_good gw LI j0 (by omega) hl hh, rfl⟩ rv (frs_not rfl) (rna.ex eb).chg ((rna.ex eb).mono (by omega)).tw
end
end Lib

namespace Lib
open PySem L2 PySem.Spec PyProof.Rows Evl
/-! ### instances can be laid -/
def layB (d : Dat) (n : Nat) : Prop := d.out.canLay0 = true ∧ d.out.depth ≤ n
theorem lay_all {n : Nat} : ∀ {ds : List Dat}, (∀ d, d ∈ ds → layB d n) → PyData.canLayAll0 (outAll ds) = true ∧ PyData.depthAll (outAll ds) ≤ n + 1
  | [], _ => by simp [outAll, PyData.canLayAll0, PyData.depthAll]
  | d :: ds, h => by
    obtain ⟨q1, q2⟩ := lay_all (n := n) fun x m => h x (List.mem_cons_of_mem _ m)
    obtain ⟨h1, h2⟩ := h d List.mem_cons_self
    rw [outAll, PyData.canLayAll0, PyData.depthAll, q1, h1]
    refine ⟨rfl, ?_⟩
    have h2' : d.out.depth ≤ n := h2
    omega
theorem lay_tup {n : Nat} {ds : List Dat} (h : ∀ d, d ∈ ds → layB d n) : layB (.tup ds) (n + 2) := by
  obtain ⟨q1, q2⟩ := lay_all h
  refine ⟨by rw [Dat.out, PyData.canLay0, q1], ?_⟩
  rw [Dat.out, PyData.depth]
  omega
theorem lay_mono {n m : Nat} {d : Dat} (h : layB d n) (l : n ≤ m) : layB d m := ⟨h.1, Nat.le_trans h.2 l⟩
theorem lay_str {s : Str} (o : PyData.strOk s = true) : layB (.str s) 1 := ⟨by simp [Dat.out, PyData.canLay0, o], by simp [Dat.out, PyData.depth]⟩
theorem lay_int (i : Int) : layB (.int i) 1 := ⟨by simp [Dat.out, PyData.canLay0], by simp [Dat.out, PyData.depth]⟩
theorem lay_non : layB .non 1 := ⟨by simp [Dat.out, PyData.canLay0], by simp [Dat.out, PyData.depth]⟩
theorem strOk_tags : ∀ s, s ∈ (["number", "mark", "plus", "times", "tell", "made"] : List Str) → PyData.strOk s = true := by
  intro s m
  have q : (["number", "mark", "plus", "times", "tell", "made"] : List Str).all PyData.strOk = true := by decide +kernel
  exact List.all_eq_true.mp q s m
theorem lay_rk {W : Wd} (gw : GoodW W) {p : Int} : ∀ {r : Rk}, GoodRk W p r → layB r.d (2 * r.depth + 3)
  | .num n, _ => lay_mono (lay_tup (n := 1) fun d m => by
      simp only [List.mem_cons, List.mem_nil_iff, or_false] at m
      rcases m with rfl | rfl
      · exact lay_str (strOk_tags _ (by simp))
      · exact lay_int _) (by omega)
  | .mark, _ => lay_mono (lay_tup (n := 1) fun d m => by
      simp only [List.mem_cons, List.mem_nil_iff, or_false] at m
      subst m
      exact lay_str (strOk_tags _ (by simp))) (by omega)
  | .tell t q, g => lay_mono (lay_tup (n := 1) fun d m => by
      simp only [List.mem_cons, List.mem_nil_iff, or_false] at m
      obtain ⟨_, b, hb⟩ := g
      rcases m with rfl | rfl | rfl
      · exact lay_str (strOk_tags _ (by simp))
      · exact lay_str (strOk_t (tn_in gw (mem_tn hb)))
      · exact lay_int _) (by omega)
  | .plus a b, g => by
    have qa := lay_rk gw g.1
    have qb := lay_rk gw g.2
    refine lay_mono (lay_tup (n := 2 * max a.depth b.depth + 3) fun d m => ?_) (by simp only [Rk.depth]; omega)
    simp only [List.mem_cons, List.mem_nil_iff, or_false] at m
    rcases m with rfl | rfl | rfl
    · exact lay_mono (lay_str (strOk_tags _ (by simp))) (by omega)
    · exact lay_mono qa (by omega)
    · exact lay_mono qb (by omega)
  | .times a b, g => by
    have qa := lay_rk gw g.1
    have qb := lay_rk gw g.2
    refine lay_mono (lay_tup (n := 2 * max a.depth b.depth + 3) fun d m => ?_) (by simp only [Rk.depth]; omega)
    simp only [List.mem_cons, List.mem_nil_iff, or_false] at m
    rcases m with rfl | rfl | rfl
    · exact lay_mono (lay_str (strOk_tags _ (by simp))) (by omega)
    · exact lay_mono qa (by omega)
    · exact lay_mono qb (by omega)
theorem lay_short {W : Wd} (gw : GoodW W) {p : Int} {r : Rk} (g : ShortRk W p r) : layB r.d 11 := lay_mono (lay_rk gw g.good) (by have := g.flat; omega)
theorem lay_body {W : Wd} (gw : GoodW W) {t : Str} {k : Nat} {b : Body} (g : GoodB W t k b) : layB b.d 16 := by
  cases g with
  | reck r _ sh => exact lay_mono (lay_short gw sh) (by omega)
  | made r ps _ sh _ al =>
    refine lay_mono (lay_tup (n := 13) fun d m => ?_) (by omega)
    rcases List.mem_cons.mp m with rfl | m
    · exact lay_mono (lay_str (strOk_tags _ (by simp))) (by omega)
    rcases List.mem_cons.mp m with rfl | m
    · exact lay_mono (lay_short gw sh) (by omega)
    obtain ⟨x, hx, rfl⟩ := List.mem_map.mp m
    obtain ⟨⟨bs, hb⟩, sx⟩ := al x hx
    refine lay_tup (n := 11) fun d m => ?_
    simp only [List.mem_cons, List.mem_nil_iff, or_false] at m
    rcases m with rfl | rfl
    · exact lay_mono (lay_str (strOk_t (tn_in gw (mem_tn hb)))) (by omega)
    · exact lay_short gw sx
theorem lay_ins {W : Wd} (gw : GoodW W) {I : Ins} (g : GoodI W I) : layB I.d 20 := by
  refine lay_mono (lay_tup (n := 16) fun d m => ?_) (by omega)
  simp only [List.mem_cons, List.mem_nil_iff, or_false] at m
  rcases m with rfl | rfl | rfl | rfl | rfl
  · exact lay_mono (lay_str (strOk_t (tn_in gw g.t))) (by omega)
  · exact lay_mono (lay_str (strOk_c (cn_in gw (List.mem_map.mpr ⟨_, g.c, rfl⟩)))) (by omega)
  · refine lay_mono (lay_tup (n := 1) fun d m => ?_) (by omega)
    obtain ⟨o, ho, rfl⟩ := List.mem_map.mp m
    cases o with
    | none => exact lay_non
    | some s => exact lay_str (strOk_c (cn_in gw (g.l s ho)))
  · refine lay_mono (lay_tup (n := 3) fun d m => ?_) (by omega)
    obtain ⟨x, hx, rfl⟩ := List.mem_map.mp m
    refine lay_tup (n := 1) fun d m => ?_
    simp only [List.mem_cons, List.mem_nil_iff, or_false] at m
    rcases m with rfl | rfl
    · exact lay_str (strOk_t (tn_in gw (g.a x hx).1))
    · exact lay_int _
  · exact lay_body gw g.b
theorem shaped_of {d : Dat} {n : Nat} (h : layB d n) (l : n ≤ 64) : SeqAt.shaped d.out = true := by
  have h2 := h.2
  simp only [SeqAt.shaped, h.1, Bool.true_and, decide_eq_true_eq]
  omega
theorem shaped_insT {W : Wd} (gw : GoodW W) {Is : List Ins} (g : ∀ I, I ∈ Is → GoodI W I) : SeqAt.shaped (Dat.tup (Is.map Ins.d)).out = true :=
  shaped_of (n := 22) (lay_tup fun d m => by obtain ⟨I, hI, rfl⟩ := List.mem_map.mp m; exact lay_ins gw (g I hI)) (by omega)
theorem shaped_insL {W : Wd} (gw : GoodW W) {Is : List Ins} (g : ∀ I, I ∈ Is → GoodI W I) : SeqAt.shaped (Dat.lst (Is.map Ins.d)).out = true := by
  obtain ⟨q1, q2⟩ := lay_all (n := 20) (ds := Is.map Ins.d) fun d m => by obtain ⟨I, hI, rfl⟩ := List.mem_map.mp m; exact lay_ins gw (g I hI)
  simp only [SeqAt.shaped, Dat.out, PyData.canLay0, q1, PyData.depth, Bool.true_and, decide_eq_true_eq]
  omega
/-! ### libraries that are good, libraries that are not -/
structure EvE (W : Wd) (zt : List Str) : Prop where
  p : zt.Perm (tn W)
  u : (zt.map Dat.str).Pairwise fun a b => leD a b = true
abbrev moE (W : Wd) (zt : List Str) : Mo := ⟨[], cn W, zt, []⟩
theorem moE_good {W : Wd} {zt : List Str} (gw : GoodW W) (e : EvE W zt) {cs : List Str} (c : cs.Sublist (cn W)) (p : Nat) : GoodM W p ⟨[], cs, zt, []⟩ :=
  ⟨by simp, .nil, fun s m => c.mem m, (cn_up gw).sublist c, fun s m => e.p.mem_iff.mp m, up_of e.u (e.p.symm.nodup (tn_nd gw)), by simp, by simp⟩
theorem lib_one {W : Wd} {zt : List Str} (gw : GoodW W) (e : EvE W zt) : GoodN W [moE W zt] := by
  refine ⟨⟨by simp, by simp, fun i m h => ?_⟩, by simp, by simpa using e.p⟩
  match i, h with
  | 0, h => cases h; exact moE_good gw e (List.Sublist.refl _) 0
theorem lib_two {W : Wd} {zt : List Str} (gw : GoodW W) (e : EvE W zt) : GoodN W [moE W zt, ⟨[0], [], [], []⟩] := by
  refine ⟨⟨by simp, by simp, fun i m h => ?_⟩, by simp, by simpa using e.p⟩
  match i, h with
  | 0, h => cases h; exact moE_good gw e (List.Sublist.refl _) 0
  | 1, h =>
    cases h
    exact ⟨fun j m => by rw [List.mem_singleton.mp m]; decide, List.pairwise_singleton _ _, by simp, .nil, by simp, .nil, by simp, by simp⟩
theorem known_E {W : Wd} {zt : List Str} (gw : GoodW W) (e : EvE W zt) (L : List Mo) : known W (moE W zt :: L) 0 = true := by
  have s0 : 0 ∈ seen (moE W zt :: L) 0 := mem_seen.mpr ⟨by simp, .self 0⟩
  have kT : knownT W (moE W zt :: L) 0 = true := by
    rw [knownT_eq, List.all_eq_true]
    intro x hx
    unfold tOk
    rw [Bool.or_eq_true]
    right
    rw [List.all_eq_true]
    intro b hb
    refine decide_eq_true (List.mem_flatMap.mpr ⟨0, s0, ?_⟩)
    exact e.p.mem_iff.mpr (below_in gw hx b hb)
  unfold known
  rw [kT]
  rfl
theorem all_one {W : Wd} {zt : List Str} (gw : GoodW W) (e : EvE W zt) : allKnown W [moE W zt] = true := by
  unfold allKnown
  rw [List.all_eq_true]
  intro k hk
  have hk := List.mem_range.mp hk
  have ek : k = 0 := by simp at hk; exact hk
  subst ek
  exact known_E gw e []
theorem all_two {W : Wd} {zt : List Str} (gw : GoodW W) (e : EvE W zt) : allKnown W [moE W zt, ⟨[0], [], [], []⟩] = true := by
  unfold allKnown
  rw [List.all_eq_true]
  intro k hk
  have hk := List.mem_range.mp hk
  simp only [List.length_cons, List.length_nil] at hk
  match k, hk with
  | 0, _ => exact known_E gw e _
  | 1, _ =>
    have kT : knownT W [moE W zt, ⟨[0], [], [], []⟩] 1 = true := by
      rw [knownT_eq, List.all_eq_true]
      intro x hx
      unfold tOk
      rw [Bool.or_eq_true]
      left
      rfl
    unfold known
    rw [kT]
    rfl
def badsD (W : Wd) (zt : List Str) : List Dat :=
  [.non, .int 5, .tup [], .tup [.tup []], .tup [(moE W zt).d, (moE W zt).d], .tup [.tup [.tup [], .tup ((cn W).map .str), .tup (zt.map .str)]], .tup [.lst []],
   .tup [.tup [.tup [.int 0], .tup ((cn W).map .str), .tup (zt.map .str), .tup []]], .tup [.tup [.non, .tup ((cn W).map .str), .tup (zt.map .str), .tup []]]] ++
  [.tup [.tup [.tup [], .tup (((cn W).take ((cn W).length - 1)).map .str), .tup (zt.map .str), .tup []]], .tup [.tup [.tup [], .tup ((cn W).map .str), .tup (zt.map .str), .tup [.non]]],
   .tup [(moE W zt).d, (moE W zt).d, (moE W zt).d, (moE W zt).d, (moE W zt).d, (moE W zt).d]] ++
  [.tup [.tup [.tup [], .tup ((cn W).map .str), .str "no", .tup []]]]
theorem one_bad {W : Wd} {d : Dat} (h : ModOut W 0 d false) : LibOut W (.tup [d]) false := by
  refine .mods [d] [false] (by simp) (by simp) rfl (fun i e b he hb => ?_) rfl
  match i, he, hb with
  | 0, he, hb => cases he; cases hb; exact h
theorem bads_bad {W : Wd} {zt : List Str} (gw : GoodW W) (e : EvE W zt) : ∀ d, d ∈ badsD W zt → LibOut W d false := by
  have npos : 1 ≤ (cn W).length := by rw [List.length_map]; exact (row_f gw.row).pos
  have few := cn_len gw
  intro d m
  simp only [badsD, List.mem_append, List.mem_cons, List.mem_nil_iff, or_false] at m
  rcases m with ((rfl | rfl | rfl | rfl | rfl | rfl | rfl | rfl | rfl) | (rfl | rfl | rfl)) | rfl
  · exact .notT _ rfl
  · exact .notT _ rfl
  · exact .len [] (by simp) (by simp)
  · exact one_bad (.len [] (by simp) (by simp))
  · refine .names [moE W zt, moE W zt] ⟨by simp, by simp, fun i m h => ?_⟩ (by rw [List.flatMap_cons, List.flatMap_cons, List.flatMap_nil, List.append_nil, List.length_append]; show (cn W).length + (cn W).length ≠ _; omega)
    match i, h with
    | 0, h => cases h; exact moE_good gw e (List.Sublist.refl _) 0
    | 1, h => cases h; exact moE_good gw e (List.Sublist.refl _) 1
  · exact one_bad (.len _ (by simp) (by simp))
  · exact one_bad (.notT _ rfl)
  · exact one_bad (.imp0 _ _ _ rfl)
  · exact one_bad (.impT _ _ _ _ rfl)
  · refine .names [⟨[], (cn W).take ((cn W).length - 1), zt, []⟩] ⟨by simp, by simp, fun i m h => ?_⟩ (by rw [List.flatMap_cons, List.flatMap_nil, List.append_nil, List.length_take]; omega)
    match i, h with
    | 0, h => cases h; exact moE_good gw e (List.take_sublist _ _) 0
  · exact one_bad (.insN _ _)
  · exact .len _ (by simp) (by simp)
  · exact one_bad (.traN _ _ rfl rfl (by omega))
section
variable {K : PySem.W.Frag} {w : World} {a t p : Addr} {ns : List Int} {n m c : Nat} {H H' H0 H1 H2 : Hp} {σ : L2.St} {ta tr : TA} {tb te tl tm tj : TE} {d : Dat} {ds xs : List Dat} {D : Ends} {tz tu tw : TS} {g : TG} {tt tt2 : TT} {Q : VK}
theorem run_catL {x y : V} (rx : Rp K H x (.lst ds)) (ry : Rp K H y (.lst xs)) (z : ds.length + xs.length ≤ 1000) (k : ∀ p us, H p = none → RpAll K H us (ds ++ xs) → Q (.ref p) (upd H p (.lst us))) : rPlus K x y H Q := by
  obtain ⟨a, us, ea, ha, ra⟩ := rp_L rx
  obtain ⟨b, ys, eb, hb, rb⟩ := rp_L ry
  have z' : us.length + ys.length ≤ sizeLine := by
    rw [rpAll_len ra, rpAll_len rb]
    exact Nat.le_trans z big16
  exact .inr (.inl ⟨a, b, us, ys, ea, eb, ha, hb, z', fun p hp => k p _ hp (rpAll_app ra rb)⟩)
theorem evd_rep6 {d : Dat} (h : Evd K te σ H (.tup [d])) : Evd K (tOp (rRepT K) te (tC (.int 6))) σ H (.tup [d, d, d, d, d, d]) := evd_op h evd_int fun x y H1 e1 rx ry Q q => by
  obtain ⟨a, us, ea, ha, ra⟩ := rp_T rx iT
  have rs := ra
  cases ra with
  | cons r1 ra =>
    cases ra
    refine ⟨a, 6, _, ea, rp_int ry, ha, by simp, by decide, by decide, by simp, fun p hp => q _ _ (Ex.new hp) (.tup (st_of upd_same) ?_)⟩
    have e := fun o => Ex.new (H := H1) (o := o) hp
    exact .cons (r1.ex (e _)) (.cons (r1.ex (e _)) (.cons (r1.ex (e _)) (.cons (r1.ex (e _)) (.cons (r1.ex (e _)) (.cons (r1.ex (e _)) .nil)))))
/-- xs[:3], xs[:1] -/
theorem sl_3 {a0 a1 a2 a3 : Dat} (h : Evd K te σ H (.tup (a0 :: a1 :: a2 :: a3 :: ds))) : Evd K (tSl (rSlT K) te tNoPart (tPart (tC (.int 3)))) σ H (.tup [a0, a1, a2]) := evd_slT h evo_none (evo_some evd_int) iT (by
    rintro ⟨_, z⟩
    simp [HT.sIx] at z) (by simp [cutD, HT.sIx])
theorem sl_1 {a0 a1 : Dat} (h : Evd K te σ H (.tup (a0 :: a1 :: ds))) : Evd K (tSl (rSlT K) te tNoPart (tPart (tC (.int 1)))) σ H (.tup [a0]) := evd_slT h evo_none (evo_some evd_int) iT (by
    rintro ⟨_, z⟩
    simp [HT.sIx] at z) (by simp [cutD, HT.sIx])
/-- xs[:-1] -/
theorem sl_m1 (h : Evd K te σ H (.tup ds)) (n : 1 ≤ ds.length) : Evd K (tSl (rSlT K) te tNoPart (tPart (tUn rNegU (tC (.int 1))))) σ H (.tup (ds.take (ds.length - 1))) := by
  have e : HT.sIx ds.length ds.length (some (-1)) = ds.length - 1 := by
    simp [HT.sIx]
    omega
  refine evd_slT h evo_none (evo_some (evd_neg evd_int)) iT ?_ ?_
  · rintro ⟨_, z⟩
    have z : HT.sIx ds.length ds.length (some (-1)) = ds.length := z
    rw [e] at z
    omega
  · unfold cutD
    show (ds.drop (HT.sIx ds.length 0 none)).take (HT.sIx ds.length ds.length (some (-1)) - HT.sIx ds.length 0 none) = _
    rw [e]
    rfl
end
end Lib

namespace Lib
open PySem L2 PySem.Spec PyProof.Rows Evl
section
variable {K : PySem.W.Frag} {w : World} {a t p : Addr} {ns : List Int} {n m c : Nat} {H H' H0 H1 H2 : Hp} {σ : L2.St} {ta tr : TA} {tb te tl tm tj : TE} {d : Dat} {ds xs : List Dat} {D : Ends} {tz tu tw : TS} {g : TG} {tt tt2 : TT} {Q : VK}
theorem eva9 {t1 t2 t3 t4 t5 t6 t7 t8 t9 : TE} {d1 d2 d3 d4 d5 d6 d7 d8 d9 : Dat} (h1 : Evd K t1 σ H d1) (h2 : Evd K t2 σ H d2) (h3 : Evd K t3 σ H d3) (h4 : Evd K t4 σ H d4) (h5 : Evd K t5 σ H d5) (h6 : Evd K t6 σ H d6) (h7 : Evd K t7 σ H d7) (h8 : Evd K t8 σ H d8) (h9 : Evd K t9 σ H d9) :
    EvdA K (tCons t1 (tCons t2 (tCons t3 (tCons t4 (tCons t5 (tCons t6 (tCons t7 (tCons t8 (tCons t9 tNil))))))))) σ H [d1, d2, d3, d4, d5, d6, d7, d8, d9] :=
  eva_cons h1 (eva_cons h2 (eva_cons h3 (eva_cons h4 (eva_cons h5 (eva4 h6 h7 h8 h9)))))
theorem home_out (Is : List Ins) (ts cs : List Str) : ((Is.filter fun I => !decide (I.trait ∈ ts)).filter fun I => !decide (I.root ∈ cs)).isEmpty = Is.all fun I => decide (I.trait ∈ ts) || decide (I.root ∈ cs) := by
  induction Is with
  | nil => rfl
  | cons I Is ih =>
    by_cases h1 : I.trait ∈ ts
    · simp only [List.filter_cons, h1, decide_true, Bool.not_true, Bool.false_eq_true, if_false, List.all_cons, Bool.true_or, Bool.true_and]
      exact ih
    · by_cases h2 : I.root ∈ cs
      · simp only [List.filter_cons, h1, h2, decide_true, decide_false, Bool.not_true, Bool.not_false, Bool.false_eq_true, if_false, if_true, List.all_cons, Bool.false_or, Bool.true_and]
        exact ih
      · simp only [List.filter_cons, h1, h2, decide_false, Bool.not_false, if_true, List.all_cons, Bool.false_or, Bool.false_and, List.isEmpty_cons]
theorem rd_law : Keeps (sp_law K w) N_law (t_law K w) := by
  rintro vs H Q E ⟨a, ns, rfl, scr, few, k⟩
  refine x_asg ⟨_, rfl, a, ns, rfl, scr, few, fun t H1 ht e1 tw => ?_⟩
  have rn := Run.start tw
  refine x_asg (imp_call rfl rfl rn (evn_of eva_nil (by simp)) ⟨rfl, rfl, rfl⟩ (by omega) fun v2 H2 d hd r2 _ c2 rn2 => ?_)
  obtain ⟨W, gw, rfl⟩ := hd
  have stW := still_world W
  refine q_forRD (K := K) (n := 5) evd_int (by omega) (by omega) (fun i σ' H' => ∃ x3 x4 x5 x6 x7 x8 x9 : Option V, σ' = [some (.ref a), some (.ref t), some v2, x3, x4, x5, x6, x7, x8, x9, none, none, none, none, none] ∧ Run K a t ns H1 (20 + i * 1000) H' ∧ Rp K H' v2 (worldD W))
    (fun H3 e3 => ⟨none, none, none, none, none, none, none, rfl, (rn2.ex e3).mono (by omega), r2.ex e3⟩) ?_ ?_
  · rintro i σ' Ha hi ⟨x3, x4, x5, x6, x7, x8, x9, rfl, rna, r2⟩
    have hi : i < 5 := by omega
    refine x_asg (imp_call rfl rfl rna (evn_of (eva1 (evd_var rfl r2)) (by simp [Dat.isL])) ⟨W, gw, rfl, rfl, rfl⟩ (by omega) fun v4 Hb d hd r4 _ cb rnb => ?_)
    obtain ⟨L, gn, rfl⟩ := hd
    have gf := gn.toGoodF
    have l5 := gf.few
    have r2 := r2.ton (rna.tonC cb) stW
    have rnb := rnb.mono (show 20 + i * 1000 + 1000 ≤ 20 + (i + 1) * 1000 by omega)
    refine q_set (evd_call (eva2 (evd_var rfl r2) (evd_var rfl r4)) ⟨W, L, gw, gn, rfl, rfl⟩) fun v5 Hc ec r5 => ?_
    have e5 := rp_bl r5
    subst e5
    have r2 := r2.ex ec
    have r4 := r4.ex ec
    have rnc := rnb.ex ec
    refine q_pass (or_f (et_is (et_T (evd_neB (evd_call (eva2 (evd_var rfl r2) (evd_var rfl r4)) ⟨W, _, allKnown W L, gw, .lib L gn, rfl, rfl⟩) (evd_var rfl (.bl _)))) (by simp)) (et_B (evd_call (eva2 (evd_var rfl r2) (evf_list (evd_var rfl r4) sT).dd) ⟨W, _, false, gw, .notT _ rfl, rfl, rfl⟩))) fun Hd ed => ?_
    have r2 := r2.ex ed
    have r4 := r4.ex ed
    have rnd := rnc.ex ed
    refine d_when (b := allKnown W L) (et_B (K := K) (evd_var rfl (.bl _))) (fun hk He ee => ?_) fun _ He ee => ⟨_, _, _, _, _, _, _, rfl, rnd.ex ee, r2.ex ee⟩
    have r2 := r2.ex ee
    have r4 := r4.ex ee
    have rne := rnd.ex ee
    refine d_forR (K := K) (n := (L.length : Int)) (evd_is (evd_len (evd_var rfl r4) sT) (by rw [List.length_map])) (by omega) (by omega) (fun j σ' H' => ∃ x6 x7 x8 x9 : Option V, σ' = [some (.ref a), some (.ref t), some v2, some (.int ((i : Nat) : Int)), some v4, some (.bl (allKnown W L)), x6, x7, x8, x9, none, none, none, none, none] ∧ Ex He H')
      (fun Hf ef => ⟨_, _, _, _, rfl, ef⟩) ?_ ?_
    · rintro j σ' Hf hj ⟨x6, x7, x8, x9, rfl, ex⟩
      have hj : j < L.length := by omega
      have gm := good_at gf hj
      have mj := mod_at hj
      have r2 := r2.ex ex
      have r4 := r4.ex ex
      refine q_set (K := K) (evd_tup eva_nil) fun v7 Hg eg r7 => ?_
      refine q_forLD (evf_call (eva2 (evd_var rfl (r4.ex eg)) (evd_var rfl (.int ((j : Nat) : Int)))) ⟨W, L, j, gf, hj, by omega, rfl, rfl⟩) (still_nats _) (fun q xs s σ' H' => ∃ (x7 : V) (x8 : Option V), σ' = [some (.ref a), some (.ref t), some v2, some (.int ((i : Nat) : Int)), some v4, some (.bl (allKnown W L)), some (.int ((j : Nat) : Int)), some x7, x8, x9, none, none, none, none, none] ∧ Ex Hg H' ∧ H' q = some (.lst xs) ∧
          Rp K H' x7 (.tup ((((seen L j).take s).flatMap fun k => (modAt L k).ins).map Ins.d)))
        (fun q xs Hh eh hq hq' rq => ⟨v7, x8, rfl, eh, hq', r7.ex eh⟩) (fun q xs s σ' H' ⟨_, _, _, _, h, _⟩ => h) ?_ ?_
      · rintro q xs s di z σ' Hh hs ⟨x7, x8, rfl, eh, hq, rx7⟩ rx
        obtain ⟨m, hm, rfl⟩ := get_map hs
        have ml := seen_lt (List.mem_of_getElem? hm)
        have tl := flat_take_len (fun k => (modAt L k).ins) (seen L j) (s + 1)
        have tk := flat_take (fun k => (modAt L k).ins) hm
        rw [tk, List.length_append] at tl
        have il := ins_len (k := j) gf
        have il : ((seen L j).flatMap fun k => (modAt L k).ins).length ≤ 100 := il
        refine d_set (evd_catT (evd_var rfl rx7) (ix3 (evd_at (evd_var rfl ((r4.ex eg).ex eh)) (evd_var rfl rx) (mod_at ml))) (d := .non) (e := .non) (by rw [List.length_map, List.length_map]; omega)) fun v Hi ei r => ⟨Ton.of ei, v, _, rfl, eh.trans ei, ei _ _ hq, ?_⟩
        rw [tk, List.map_append]
        exact r
      rintro q xs σ' Hh ⟨x7, x8, rfl, eh, hq, rx7⟩
      rw [List.length_map, List.take_length] at rx7
      have rx7 : Rp K Hh x7 (.tup ((insSeen L j).map Ins.d)) := rx7
      have y := eg.trans eh
      have gI : ∀ I, I ∈ insSeen L j → GoodI W I := fun I hI => by
        obtain ⟨m, hm, hI⟩ := List.mem_flatMap.mp hI
        exact (good_at gf (seen_lt hm)).ins I hI
      have sh := shaped_insT gw gI
      refine q_pass (et_is (et_T (evd_ne (evd_call (eva3 (evd_var rfl (r2.ex y)) (evd_var rfl (r4.ex y)) (evd_var rfl (.int ((j : Nat) : Int)))) ⟨W, L, j, gw, gn, hk, hj, rfl, rfl⟩) (evd_var rfl rx7) sh sh)) (by rw [show PyData.eqv _ _ = true from SeqAt.eqv_refl _ (lay_of sh)]; rfl)) fun Hi ei => ?_
      have y := y.trans ei
      have few4 := gm.few
      refine q_set (evf_lcF Ins.d Ins.d (fun I => !decide (I.trait ∈ (modAt L j).traits)) (src_tup (ix3 (evd_at (evd_var rfl (r4.ex y)) (evd_var rfl (.int ((j : Nat) : Int))) mj)) iT) (by omega) (fun I _ => still_ins I) fun I hI x Hj ej rx => ⟨_, tgt1, rfl, et_T (evd_niS (ix0 (evd_var rfl rx)) (ix2 (evd_at (evd_var rfl (r4.ex (y.trans ej))) (evd_var rfl (.int ((j : Nat) : Int))) mj)) sT), fun _ => evd_var rfl rx⟩).dd fun v9 Hj ej r9 => ?_
      have y := y.trans ej
      refine q_set (evf_lcF Ins.d Ins.d (fun I => !decide (I.root ∈ (modAt L j).cons)) (src_lst (evd_var rfl r9)) (by have := List.length_filter_le (fun I : Ins => !decide (I.trait ∈ (modAt L j).traits)) (modAt L j).ins; omega) (fun I _ => still_ins I) fun I hI x Hk ek rx => ⟨_, tgt1, rfl, et_T (evd_niS (ix1 (evd_var rfl rx)) (ix1 (evd_at (evd_var rfl (r4.ex (y.trans ek))) (evd_var rfl (.int ((j : Nat) : Int))) mj)) sT), fun _ => evd_var rfl rx⟩).dd fun v9 Hk ek r9 => ?_
      have y := y.trans ek
      refine d_pass (et_is (et_T (evd_neB (evd_call (eva3 (evd_var rfl (r2.ex y)) (evd_var rfl (r4.ex y)) (evd_var rfl (.int ((j : Nat) : Int)))) ⟨W, L, j, gw, gn, hk, hj, rfl, rfl⟩) (evd_eq (evd_var rfl r9) (evf_lst eva_nil).dd (shaped_insL gw fun I hI => gm.ins I (List.mem_filter.mp (List.mem_filter.mp hI).1).1) shaped_nil))) ?_) fun Hl el => ?_
      · rw [eqv_nil, List.isEmpty_map, home_out]
        show (!decide (homeB L j = homeB L j)) = false
        simp
      · exact ⟨_, _, _, _, rfl, ex.trans (y.trans el)⟩
    · rintro σ' Hf ⟨x6, x7, x8, x9, rfl, ex⟩
      exact ⟨_, _, _, _, _, _, _, rfl, rne.ex ex, r2.ex ex⟩
  · rintro σ' Ha ⟨x3, x4, x5, x6, x7, x8, x9, rfl, rna, r2⟩
    obtain ⟨zt, pzt, wzt⟩ := srt_tn W
    have e : EvE W zt := ⟨pzt, wzt⟩
    have nc := cn_len gw
    have npos : 1 ≤ (cn W).length := by rw [List.length_map]; exact (row_f gw.row).pos
    have tl3 := tn_len gw
    refine q_set (evd_tup (eva4 (evd_tup eva_nil) (evd_tuple (evf_cons gw (i := 2) (j := 12) rfl (by show 12 < 15; decide) (by decide) r2).dd) (evd_tuple (evf_sorted (zs := zt.map .str) (evd_call (eva1 (evd_var rfl r2)) ⟨W, gw, rfl, rfl⟩) (alike_strs _) (sortable_strs _) (dep_strs _) (by rw [List.length_map]; omega) fun es pe we => strs_two pe (List.Perm.refl _) pzt.symm we wzt).dd) (evd_tup eva_nil)) (by simp)) fun v11 Hb eb r11 => ?_
    have r11 : Rp K Hb v11 (.tup [.tup [], .tup ((cn W).map .str), .tup (zt.map .str), .tup []]) := r11
    have V : ∀ {σ : L2.St} {H : Hp}, σ[11]? = some (some v11) → Ex Hb H → Evd K (tVar 11) σ H (.tup [.tup [], .tup ((cn W).map .str), .tup (zt.map .str), .tup []]) := fun h e => evd_var h (r11.ex e)
    refine q_setF (d := .lst ((badsD W zt).take 9)) (evf_lst (eva9 evd_non evd_int (evd_tup eva_nil) (evd_tup (eva1 (evd_tup eva_nil)) (by simp)) (evd_tup (eva2 (V rfl (Ex.refl _)) (V rfl (Ex.refl _))) (by simp)) (evd_tup (eva1 (sl_3 (V rfl (Ex.refl _)))) (by simp)) (evd_tup (eva1 (evf_lst eva_nil).dd) (by simp))
      (evd_tup (eva1 (evd_catT (d := .non) (e := .non) (evd_tup (eva1 (evd_tup (eva1 evd_int) (by simp))) (by simp)) (sl1 (V rfl (Ex.refl _))) (by simp))) (by simp)) (evd_tup (eva1 (evd_catT (d := .non) (e := .non) (evd_tup (eva1 evd_non) (by simp)) (sl1 (V rfl (Ex.refl _))) (by simp))) (by simp))) (by simp [badsD])) fun v13 Hc ec r13 _ => ?_
    refine x_asg (x_op (x_var rfl ((evf_lst (K := K) (ds := [.tup [.tup [.tup [], .tup (((cn W).take ((cn W).length - 1)).map .str), .tup (zt.map .str), .tup []]], .tup [.tup [.tup [], .tup ((cn W).map .str), .tup (zt.map .str), .tup [.non]]],
        .tup [(moE W zt).d, (moE W zt).d, (moE W zt).d, (moE W zt).d, (moE W zt).d, (moE W zt).d]]) (eva3
      (evd_tup (eva1 (evd_catT (d := .non) (e := .non) (evd_catT (d := .non) (e := .non) (sl_1 (V rfl ec)) (evd_tup (eva1 (evd_is (sl_m1 (ix1 (V rfl ec)) (by rw [List.length_map]; exact npos)) (by rw [List.map_take, List.length_map (f := Dat.str)]))) (by simp)) (by simp)) (sl2 (V rfl ec)) (by simp))) (by simp))
      (evd_tup (eva1 (evd_catT (d := .non) (e := .non) (sl_3 (V rfl ec)) (evd_tup (eva1 (evd_tup (eva1 evd_non) (by simp))) (by simp)) (by simp))) (by simp)) (evd_rep6 (evd_tup (eva1 (V rfl ec)) (by simp)))) (by simp)).go fun v Hd ed rv _ => run_catL (r13.ex ed) rv (by simp [badsD]) fun p us hp ru => ?_)))
    have ecd := ec.trans ed
    have eD := Ex.new (H := Hd) (o := .lst us) hp
    have lu := rpAll_len ru
    refine q_appD (p := p) rfl upd_same (by rw [lu]; simp [badsD]) (evd_tup (eva1 (evd_catT (d := .non) (e := .non) (sl_2 (V rfl (ecd.trans eD))) (evd_tup (eva2 evd_str (evd_tup eva_nil)) (by simp)) (by simp))) (by simp)) (d := .tup [.tup [.tup [], .tup ((cn W).map .str), .str "no", .tup []]]) fun v He ee rv' => ?_
    have eE : Ex Hd (upd He p (.lst (us ++ [v]))) := Ex.mut (eD.trans ee) hp
    have eBE : Ex Hb (upd He p (.lst (us ++ [v]))) := ecd.trans eE
    have he : He p = some (.lst us) := ee _ _ upd_same
    have rb : Rp K (upd He p (.lst (us ++ [v]))) (.ref p) (.lst (badsD W zt)) := .lst upd_same (rpAll_app (ru.ex eE) (.cons (rv'.ton (Ton.upd (Ton.refl He) he) (by simp only [Dat.still, stillAll, still_strs, Bool.and_true, Bool.and_self])) .nil))
    have r2 := r2.ex (eb.trans eBE)
    revert rb r2 eBE
    generalize upd He p (.lst (us ++ [v])) = G
    intro eBE rb r2
    refine q_pass (et_is (et_T (evd_neNil (ds := []) (evd_is (evf_lcF (xs := badsD W zt) (fun z : Dat => z) (fun _ => .non) (fun _ => false) (src_lst (by rw [List.map_id']; exact evd_var rfl rb)) (by simp [badsD]) (fun _ _ => rfl) fun z hz x Hf ef rx => ⟨_, tgt1, rfl, et_is (et_T (evd_notB (evd_call (eva2 (evd_var rfl (r2.ex ef)) (evd_var rfl rx)) ⟨W, z, false, gw, bads_bad gw e z hz, rfl, rfl⟩))) (by simp), fun z => nomatch z⟩).dd (by simp)) shaped_nil)) rfl) fun Hf ef => ?_
    have eF := eBE.trans ef
    refine x_ret ((and_t (K := K) (b := true) (evd_is (evd_isB (evd_call (eva2 (evd_var rfl (r2.ex ef)) (evd_tup (eva1 (V rfl eF)) (by simp))) (d := .bl true) ⟨W, libD [moE W zt], true, gw, by have q := LibOut.lib _ (lib_one gw e); rw [all_one gw e] at q; exact q, rfl, rfl⟩)) (by simp))
      (evd_is (evd_isB (evd_call (eva2 (evd_var rfl (r2.ex ef)) (evd_tup (eva2 (V rfl eF) (evd_tup (eva4 (evd_tup (eva1 evd_int) (by simp)) (evd_tup eva_nil) (evd_tup eva_nil) (evd_tup eva_nil)) (by simp))) (by simp))) (d := .bl true) ⟨W, libD [moE W zt, ⟨[0], [], [], []⟩], true, gw, by have q := LibOut.lib _ (lib_two gw e); rw [all_two gw e] at q; exact q, rfl, rfl⟩)) (by simp))).go fun v Hg eg r => ?_)
    rw [rp_bl r]
    exact k Hg
end
end Lib

namespace Lib
open PySem L2 PySem.Spec PyProof.Rows Evl
section
variable {P : Program} {w : World} {K : PySem.W.Frag} {mg : Str → Option Value} {base : Heap}
theorem dv_is_between (T : Tops K mg) :
    RunsTo P w K mg base N_is_between "is_between" s_is_between 0 (t_is_between K w) := fun f cdv A outer s H E hr =>
  (pss_one (ps_ret (pe_and (pe_callB call_isi (by rfl) T.z_isinstance bt_isinstance (pa_cons (pv 0) (pa_cons (pe_bltn (by rfl) T.z_int bt_int rfl) pa_nil))) (pe_and (pe_not (pe_callB call_isi (by rfl) T.z_isinstance bt_isinstance (pa_cons (pv 0) (pa_cons (pe_bltn (by rfl) T.z_bool bt_bool rfl) pa_nil)))) (pe_one (pe_chain op_le op_le (pv 1) (pv 0) (pv 2)))))))
theorem dv_are_small (T : Tops K mg) :
    RunsTo P w K mg base N_are_small "are_small" s_are_small 0 (t_are_small K w) := fun f cdv A outer s H E hr =>
  (pss_one (ps_ret (pe_and (pe_callB call_isi (by rfl) T.z_isinstance bt_isinstance (pa_cons (pv 0) (pa_cons (pe_bltn (by rfl) T.z_str bt_str rfl) pa_nil))) (pe_and (pe_chain op_le op_le (pv 1) (pe_callB c_len (by rfl) T.z_len bt_len (pa_cons (pv 0) pa_nil)) (pv 2)) (pe_one (pe_callB (cr_all (by rfl)) (by rfl) T.z_all bt_all (pa_cons (lcX [("sign", 3)] (by rfl) (by rfl) sc_are_small.nd (blkOk_by (N := N_are_small) (sc := defScope s_are_small) (own := [("sign", 3)]) (by decide +kernel)) (pi_str (pv 0)) (fun _ _ _ _ _ => (pg_name (i := 3) sc_are_small.nd rfl (Or.inl rfl))) (fun _ _ _ _ _ => pts_nil) (fun _ _ _ _ _ => (pe_cmpR op_inS (pv 3) (pe_str_of (by rfl) T.mSMALL) (by rfl)))) pa_nil)))))))
theorem dv_is_constructor (T : Tops K mg)
    (C_are_small : C8.Cal P w K mg base 1 "are_small" (sp_are_small K w) [])
    (C_is_between : C8.Cal P w K mg base 1 "is_between" (sp_is_between K w) []) :
    RunsTo P w K mg base N_is_constructor "is_constructor" s_is_constructor 1 (t_is_constructor K w) := fun f cdv A outer s H E hr =>
  (pss_cons (ps_if (PW.pt (pw_or (pt_not (pt_val (pe_callB call_isi (by rfl) T.z_isinstance bt_isinstance (pa_cons (pv 0) (pa_cons (pe_bltn (by rfl) T.z_tuple bt_tuple rfl) pa_nil))))) (pw_or (pt_cmpR (op_neX hr.units) (pe_callB c_len (by rfl) T.z_len bt_len (pa_cons (pv 0) pa_nil)) pe_int (nomark _)) (pw_or (pt_not (pt_val (pe_callB call_isi (by rfl) T.z_isinstance bt_isinstance (pa_cons (pe_ix ix_seq (pv 0) pe_int (fun _ _ => rfl)) (pa_cons (pe_bltn (by rfl) T.z_str bt_str rfl) pa_nil))))) (pw_or1 (pt_cmpR (op_eqX hr.units) (pe_ix ix_seq (pv 0) pe_int (fun _ _ => rfl)) pe_str (nomark _))))))) (pss_one (ps_ret pe_bl)) pss_nil)
  (pss_one (ps_ret (pe_and (pe_cmpR op_inS (pe_ix ix_seq (pe_ix ix_seq (pv 0) pe_int (fun _ _ => rfl)) pe_int (fun _ _ => rfl)) (pe_str_of (by rfl) T.mGREAT) (by rfl)) (pe_and (C8.pe_c C_are_small hr (by decide) (by rfl) (pa_cons (pe_slice sl_str (pe_ix ix_seq (pv 0) pe_int (fun _ _ => rfl)) (po_some pe_int) po_none) (pa_cons pe_int (pa_cons pe_int pa_nil)))) (pe_one (C8.pe_c C_is_between hr (by decide) (by rfl) (pa_cons (pe_ix ix_seq (pv 0) pe_int (fun _ _ => rfl)) (pa_cons pe_int (pa_cons pe_int pa_nil))))))))))
theorem dv_are_traits (T : Tops K mg)
    (C_are_small : C8.Cal P w K mg base 1 "are_small" (sp_are_small K w) []) :
    RunsTo P w K mg base N_are_traits "are_traits" s_are_traits 1 (t_are_traits K w) := fun f cdv A outer s H E hr =>
  (pss_cons (ps_if (PW.pt (pw_or (pt_not (pt_val (pe_callB call_isi (by rfl) T.z_isinstance bt_isinstance (pa_cons (pv 0) (pa_cons (pe_bltn (by rfl) T.z_tuple bt_tuple rfl) pa_nil))))) (pw_or1 (pt_not (pt_chain op_le op_le pe_int (pe_callB c_len (by rfl) T.z_len bt_len (pa_cons (pv 0) pa_nil)) pe_int))))) (pss_one (ps_ret pe_bl)) pss_nil)
  (pss_cons (ps_set (i := 1) sc_are_traits.nd rfl (Or.inr rfl) (pe_lst pa_nil))
  (pss_cons (ps_for PassesOwn.never rfl (pi_tup (pv 0)) (pg_name (i := 2) sc_are_traits.nd rfl (Or.inl rfl))
  (pss_cons (ps_if (PW.pt (pw_or (pt_not (pt_val (pe_callB call_isi (by rfl) T.z_isinstance bt_isinstance (pa_cons (pv 2) (pa_cons (pe_bltn (by rfl) T.z_tuple bt_tuple rfl) pa_nil))))) (pw_or (pt_cmpR (op_neX hr.units) (pe_callB c_len (by rfl) T.z_len bt_len (pa_cons (pv 2) pa_nil)) pe_int (nomark _)) (pw_or (pt_not (pt_val (C8.pe_c C_are_small hr (by decide) (by rfl) (pa_cons (pe_ix ix_seq (pv 2) pe_int (fun _ _ => rfl)) (pa_cons pe_int (pa_cons pe_int pa_nil)))))) (pw_or1 (pt_cmpR op_in_seq (pe_ix ix_seq (pv 2) pe_int (fun _ _ => rfl)) (pv 1) (by rfl))))))) (pss_one (ps_ret pe_bl)) pss_nil)
  (pss_cons (ps_asg (pv 2) (pg_tup (by rfl) (pgs_cons (pg_name (i := 3) sc_are_traits.nd rfl (Or.inl rfl)) (pgs_cons (pg_name (i := 4) sc_are_traits.nd rfl (Or.inl rfl)) (pgs_cons (pg_name (i := 5) sc_are_traits.nd rfl (Or.inr rfl)) pgs_nil)))))
  (pss_cons (ps_if (PW.pt (pw_or (pt_not (pt_val (pe_callB call_isi (by rfl) T.z_isinstance bt_isinstance (pa_cons (pv 4) (pa_cons (pe_bltn (by rfl) T.z_str bt_str rfl) pa_nil))))) (pw_or (pt_cmpR op_notIn_seq (pv 4) (pe_tup (pa_cons pe_str (pa_cons pe_str pa_nil))) (by rfl)) (pw_or1 (pt_not (pt_val (pe_callB call_isi (by rfl) T.z_isinstance bt_isinstance (pa_cons (pv 5) (pa_cons (pe_bltn (by rfl) T.z_tuple bt_tuple rfl) pa_nil))))))))) (pss_one (ps_ret pe_bl)) pss_nil)
  (pss_cons (ps_if (pt_not (pt_val (pe_callB (cr_all (by rfl)) (by rfl) T.z_all bt_all (pa_cons (lcX [("one", 6)] (by rfl) (by rfl) sc_are_traits.nd (blkOk_by (N := N_are_traits) (sc := defScope s_are_traits) (own := [("one", 6)]) (by decide +kernel)) (pi_tup (pv 5)) (fun _ _ _ _ _ => (pg_name (i := 6) sc_are_traits.nd rfl (Or.inl rfl))) (fun _ _ _ _ _ => pts_nil) (fun _ _ _ _ _ => (pe_and (pe_callB call_isi (by rfl) T.z_isinstance bt_isinstance (pa_cons (pv 6) (pa_cons (pe_bltn (by rfl) T.z_str bt_str rfl) pa_nil))) (pe_one (pe_cmpR op_in_seq (pv 6) (pv 1) (by rfl)))))) pa_nil)))) (pss_one (ps_ret pe_bl)) pss_nil)
  (pss_cons (ps_if (pt_not (pt_val (pe_callB (cr_all (by rfl)) (by rfl) T.z_all bt_all (pa_cons (lcX [("k", 7)] (by rfl) (by rfl) sc_are_traits.nd (blkOk_by (N := N_are_traits) (sc := defScope s_are_traits) (own := [("k", 7)]) (by decide +kernel)) (pi_range1 (by rfl) T.z_range (pa_cons (pe_op op_sub (pe_callB c_len (by rfl) T.z_len bt_len (pa_cons (pv 5) pa_nil)) pe_int) pa_nil)) (fun _ _ _ _ _ => (pg_name (i := 7) sc_are_traits.nd rfl (Or.inl rfl))) (fun _ _ _ _ _ => pts_nil) (fun _ _ _ _ _ => (pe_cmpR (op_ltD hr.units) (pe_ix ix_seq (pv 5) (pv 7) (fun _ _ => rfl)) (pe_ix ix_seq (pv 5) (pe_op op_plus (pv 7) pe_int) (fun _ _ => rfl)) (nomark _)))) pa_nil)))) (pss_one (ps_ret pe_bl)) pss_nil)
  (pss_one (ps_expr (pe_bm PySem.F.plainAttrs_list PySem.F.slot_list_append PySem.F.type_list_append mt_append (pv 1) (pa_cons (pv 3) pa_nil))))))))))
  (pss_one (ps_ret pe_bl)))))
theorem dv_is_world (T : Tops K mg)
    (C_is_constructor : C8.Cal P w K mg base 2 "is_constructor" (sp_is_constructor K w) [])
    (C_are_traits : C8.Cal P w K mg base 2 "are_traits" (sp_are_traits K w) []) :
    RunsTo P w K mg base N_is_world "is_world" s_is_world 2 (t_is_world K w) := fun f cdv A outer s H E hr =>
  (pss_cons (ps_if (PW.pt (pw_or (pt_not (pt_val (pe_callB call_isi (by rfl) T.z_isinstance bt_isinstance (pa_cons (pv 0) (pa_cons (pe_bltn (by rfl) T.z_tuple bt_tuple rfl) pa_nil))))) (pw_or (pt_cmpR (op_neX hr.units) (pe_callB c_len (by rfl) T.z_len bt_len (pa_cons (pv 0) pa_nil)) pe_int (nomark _)) (pw_or1 (pt_not (pt_val (pe_callB call_isi (by rfl) T.z_isinstance bt_isinstance (pa_cons (pe_ix ix_seq (pv 0) pe_int (fun _ _ => rfl)) (pa_cons (pe_bltn (by rfl) T.z_tuple bt_tuple rfl) pa_nil))))))))) (pss_one (ps_ret pe_bl)) pss_nil)
  (pss_cons (ps_set (i := 1) sc_is_world.nd rfl (Or.inr rfl) (pe_ix ix_seq (pv 0) pe_int (fun _ _ => rfl)))
  (pss_cons (ps_if (PW.pt (pw_or (pt_not (pt_chain op_le op_le pe_int (pe_callB c_len (by rfl) T.z_len bt_len (pa_cons (pv 1) pa_nil)) pe_int)) (pw_or1 (pt_not (pt_val (pe_callB (cr_all (by rfl)) (by rfl) T.z_all bt_all (pa_cons (lcX [("one", 2)] (by rfl) (by rfl) sc_is_world.nd (blkOk_by (N := N_is_world) (sc := defScope s_is_world) (own := [("one", 2)]) (by decide +kernel)) (pi_tup (pv 1)) (fun _ _ _ _ _ => (pg_name (i := 2) sc_is_world.nd rfl (Or.inl rfl))) (fun _ _ _ _ _ => pts_nil) (fun _ _ _ _ _ => (C8.pe_c C_is_constructor hr (by decide) (by rfl) (pa_cons (pv 2) pa_nil)))) pa_nil))))))) (pss_one (ps_ret pe_bl)) pss_nil)
  (pss_cons (ps_if (pt_not (pt_val (pe_callB (cr_all (by rfl)) (by rfl) T.z_all bt_all (pa_cons (lcX [("k", 3)] (by rfl) (by rfl) sc_is_world.nd (blkOk_by (N := N_is_world) (sc := defScope s_is_world) (own := [("k", 3)]) (by decide +kernel)) (pi_range1 (by rfl) T.z_range (pa_cons (pe_op op_sub (pe_callB c_len (by rfl) T.z_len bt_len (pa_cons (pv 1) pa_nil)) pe_int) pa_nil)) (fun _ _ _ _ _ => (pg_name (i := 3) sc_is_world.nd rfl (Or.inl rfl))) (fun _ _ _ _ _ => pts_nil) (fun _ _ _ _ _ => (pe_cmpR (op_ltD hr.units) (pe_ix ix_seq (pe_ix ix_seq (pv 1) (pv 3) (fun _ _ => rfl)) pe_int (fun _ _ => rfl)) (pe_ix ix_seq (pe_ix ix_seq (pv 1) (pe_op op_plus (pv 3) pe_int) (fun _ _ => rfl)) pe_int (fun _ _ => rfl)) (nomark _)))) pa_nil)))) (pss_one (ps_ret pe_bl)) pss_nil)
  (pss_one (ps_ret (pe_and (pe_callB (cr_any (by rfl)) (by rfl) T.z_any bt_any (pa_cons (lcX [("name", 4), ("parts", 5)] (by rfl) (by rfl) sc_is_world.nd (blkOk_by (N := N_is_world) (sc := defScope s_is_world) (own := [("name", 4), ("parts", 5)]) (by decide +kernel)) (pi_tup (pv 1)) (fun _ _ _ _ _ => (pg_tup (by rfl) (pgs_cons (pg_name (i := 4) sc_is_world.nd rfl (Or.inl rfl)) (pgs_cons (pg_name (i := 5) sc_is_world.nd rfl (Or.inl rfl)) pgs_nil)))) (fun _ _ _ _ _ => pts_nil) (fun _ _ _ _ _ => (pe_cmpR (op_eqX hr.units) (pv 5) pe_int (nomark _)))) pa_nil)) (pe_one (C8.pe_c C_are_traits hr (by decide) (by rfl) (pa_cons (pe_ix ix_seq (pv 0) pe_int (fun _ _ => rfl)) pa_nil))))))))))
theorem dv_check_world (T : Tops K mg)
    (C_is_world : C8.Cal P w K mg base 3 "is_world" (sp_is_world K w) []) :
    RunsTo P w K mg base N_check_world "check_world" s_check_world 3 (t_check_world K w) := fun f cdv A outer s H E hr =>
  (pss_one (ps_if (pt_not (pt_val (C8.pe_c C_is_world hr (by decide) (by rfl) (pa_cons (pv 0) pa_nil)))) (pss_one ps_never) pss_nil))
theorem dv_trait_names (T : Tops K mg) :
    RunsTo P w K mg base N_trait_names "trait_names" s_trait_names 0 (t_trait_names K w) := fun f cdv A outer s H E hr =>
  (pss_one (ps_ret (lcX [("name", 1), ("form", 2), ("below", 3)] (by rfl) (by rfl) sc_trait_names.nd (blkOk_by (N := N_trait_names) (sc := defScope s_trait_names) (own := [("name", 1), ("form", 2), ("below", 3)]) (by decide +kernel)) (pi_tup (pe_ix ix_seq (pv 0) pe_int (fun _ _ => rfl))) (fun _ _ _ _ _ => (pg_tup (by rfl) (pgs_cons (pg_name (i := 1) sc_trait_names.nd rfl (Or.inl rfl)) (pgs_cons (pg_name (i := 2) sc_trait_names.nd rfl (Or.inl rfl)) (pgs_cons (pg_name (i := 3) sc_trait_names.nd rfl (Or.inl rfl)) pgs_nil))))) (fun _ _ _ _ _ => pts_nil) (fun _ _ _ _ _ => (pv 1)))))
theorem dv_form_of (T : Tops K mg) :
    RunsTo P w K mg base N_form_of "form_of" s_form_of 0 (t_form_of K w) := fun f cdv A outer s H E hr =>
  (pss_one (ps_ret (pe_ix ix_seq (lcX [("name", 2), ("form", 3), ("below", 4)] (by rfl) (by rfl) sc_form_of.nd (blkOk_by (N := N_form_of) (sc := defScope s_form_of) (own := [("name", 2), ("form", 3), ("below", 4)]) (by decide +kernel)) (pi_tup (pe_ix ix_seq (pv 0) pe_int (fun _ _ => rfl))) (fun _ _ _ _ _ => (pg_tup (by rfl) (pgs_cons (pg_name (i := 2) sc_form_of.nd rfl (Or.inl rfl)) (pgs_cons (pg_name (i := 3) sc_form_of.nd rfl (Or.inl rfl)) (pgs_cons (pg_name (i := 4) sc_form_of.nd rfl (Or.inl rfl)) pgs_nil))))) (fun _ _ _ _ _ => (pts_one (pt_cmpR (op_eqX hr.units) (pv 2) (pv 1) (nomark _)))) (fun _ _ _ _ _ => (pv 3))) pe_int (fun _ _ => rfl))))
theorem dv_reckoned {n : Nat} (T : Tops K mg)
    (C_self : C8.Cal P w K mg base (0 + n) "reckoned" (sp_reckoned K w n) []) :
    RunsTo P w K mg base N_reckoned "reckoned" s_reckoned (0 + n) (t_reckoned K w n) := fun f cdv A outer s H E hr =>
  (pss_one (ps_ret (pe_op op_plus pe_int (pe_callB (cr_sum (by rfl)) (by rfl) T.z_sum bt_sum (pa_cons (lcX [("part", 1)] (by rfl) (by rfl) sc_reckoned.nd (blkOk_by (N := N_reckoned) (sc := defScope s_reckoned) (own := [("part", 1)]) (by decide +kernel)) (pi_tup (pe_slice sl_tup (pv 0) (po_some pe_int) po_none)) (fun _ _ _ _ _ => (pg_name (i := 1) sc_reckoned.nd rfl (Or.inl rfl))) (fun _ _ _ _ _ => (pts_one (pt_val (pe_callB call_isi (by rfl) T.z_isinstance bt_isinstance (pa_cons (pv 1) (pa_cons (pe_bltn (by rfl) T.z_tuple bt_tuple rfl) pa_nil)))))) (fun _ _ _ _ _ => (C8.pe_c C_self hr (Nat.le_refl _) (by rfl) (pa_cons (pv 1) pa_nil)))) pa_nil)))))
theorem dv_is_reckoning {n : Nat} (T : Tops K mg)
    (C_is_between : C8.Cal P w K mg base 1 "is_between" (sp_is_between K w) [])
    (C_self : C8.Cal P w K mg base (1 + n) "is_reckoning" (sp_is_reckoning K w n) []) :
    RunsTo P w K mg base N_is_reckoning "is_reckoning" s_is_reckoning (1 + n) (t_is_reckoning K w n) := fun f cdv A outer s H E hr =>
  (pss_cons (ps_if (PW.pt (pw_or (pt_not (pt_val (pe_callB call_isi (by rfl) T.z_isinstance bt_isinstance (pa_cons (pv 1) (pa_cons (pe_bltn (by rfl) T.z_tuple bt_tuple rfl) pa_nil))))) (pw_or (pt_cmpR (op_eqX hr.units) (pe_callB c_len (by rfl) T.z_len bt_len (pa_cons (pv 1) pa_nil)) pe_int (nomark _)) (pw_or1 (pt_not (pt_val (pe_callB call_isi (by rfl) T.z_isinstance bt_isinstance (pa_cons (pe_ix ix_seq (pv 1) pe_int (fun _ _ => rfl)) (pa_cons (pe_bltn (by rfl) T.z_str bt_str rfl) pa_nil))))))))) (pss_one (ps_ret pe_bl)) pss_nil)
  (pss_cons (ps_if (pt_cmpR (op_eqX hr.units) (pe_ix ix_seq (pv 1) pe_int (fun _ _ => rfl)) pe_str (nomark _)) (pss_one (ps_ret (pe_and (pe_cmpR (op_eqX hr.units) (pe_callB c_len (by rfl) T.z_len bt_len (pa_cons (pv 1) pa_nil)) pe_int (nomark _)) (pe_one (C8.pe_c C_is_between hr (by omega) (by rfl) (pa_cons (pe_ix ix_seq (pv 1) pe_int (fun _ _ => rfl)) (pa_cons pe_int (pa_cons pe_int pa_nil)))))))) pss_nil)
  (pss_cons (ps_if (pt_cmpR (op_eqX hr.units) (pe_ix ix_seq (pv 1) pe_int (fun _ _ => rfl)) pe_str (nomark _)) (pss_one (ps_ret (pe_cmpR (op_eqX hr.units) (pe_callB c_len (by rfl) T.z_len bt_len (pa_cons (pv 1) pa_nil)) pe_int (nomark _)))) pss_nil)
  (pss_cons (ps_if (pt_cmpR op_in_seq (pe_ix ix_seq (pv 1) pe_int (fun _ _ => rfl)) (pe_tup (pa_cons pe_str (pa_cons pe_str pa_nil))) (by rfl)) (pss_one (ps_ret (pe_and (pe_cmpR (op_eqX hr.units) (pe_callB c_len (by rfl) T.z_len bt_len (pa_cons (pv 1) pa_nil)) pe_int (nomark _)) (pe_one (pe_callB (cr_all (by rfl)) (by rfl) T.z_all bt_all (pa_cons (lcX [("part", 3)] (by rfl) (by rfl) sc_is_reckoning.nd (blkOk_by (N := N_is_reckoning) (sc := defScope s_is_reckoning) (own := [("part", 3)]) (by decide +kernel)) (pi_tup (pe_slice sl_tup (pv 1) (po_some pe_int) po_none)) (fun _ _ _ _ _ => (pg_name (i := 3) sc_is_reckoning.nd rfl (Or.inl rfl))) (fun _ _ _ _ _ => pts_nil) (fun _ _ _ _ _ => (C8.pe_c C_self hr (Nat.le_refl _) (by rfl) (pa_cons (pv 0) (pa_cons (pv 3) (pa_cons (pv 2) pa_nil)))))) pa_nil)))))) pss_nil)
  (pss_cons (ps_if (PW.pt (pw_or (pt_cmpR (op_neX hr.units) (pe_ix ix_seq (pv 1) pe_int (fun _ _ => rfl)) pe_str (nomark _)) (pw_or (pt_cmpR (op_neX hr.units) (pe_callB c_len (by rfl) T.z_len bt_len (pa_cons (pv 1) pa_nil)) pe_int (nomark _)) (pw_or1 (pt_not (pt_val (C8.pe_c C_is_between hr (by omega) (by rfl) (pa_cons (pe_ix ix_seq (pv 1) pe_int (fun _ _ => rfl)) (pa_cons pe_int (pa_cons (pe_op op_sub (pv 2) pe_int) pa_nil)))))))))) (pss_one (ps_ret pe_bl)) pss_nil)
  (pss_one (ps_ret (pe_and (pe_callB call_isi (by rfl) T.z_isinstance bt_isinstance (pa_cons (pe_ix ix_seq (pv 1) pe_int (fun _ _ => rfl)) (pa_cons (pe_bltn (by rfl) T.z_str bt_str rfl) pa_nil))) (pe_one (pe_cmpR (op_inD (hu65 hr)) (pe_tup (pa_cons (pe_ix ix_seq (pv 1) pe_int (fun _ _ => rfl)) (pa_cons pe_str pa_nil))) (lcX [("row", 4)] (by rfl) (by rfl) sc_is_reckoning.nd (blkOk_by (N := N_is_reckoning) (sc := defScope s_is_reckoning) (own := [("row", 4)]) (by decide +kernel)) (pi_tup (pe_ix ix_seq (pv 0) pe_int (fun _ _ => rfl))) (fun _ _ _ _ _ => (pg_name (i := 4) sc_is_reckoning.nd rfl (Or.inl rfl))) (fun _ _ _ _ _ => pts_nil) (fun _ _ _ _ _ => (pe_slice sl_tup (pv 4) po_none (po_some pe_int)))) (by rfl)))))))))))
theorem dv_is_short (T : Tops K mg)
    (C_is_reckoning : C8.Cal P w K mg base 10 "is_reckoning" (sp_is_reckoning K w 9) [])
    (C_reckoned : C8.Cal P w K mg base 9 "reckoned" (sp_reckoned K w 9) []) :
    RunsTo P w K mg base N_is_short "is_short" s_is_short 10 (t_is_short K w) := fun f cdv A outer s H E hr =>
  (pss_one (ps_ret (pe_and (C8.pe_c C_is_reckoning hr (by decide) (by rfl) (pa_cons (pv 0) (pa_cons (pv 1) (pa_cons (pv 2) pa_nil)))) (pe_one (pe_cmpR op_le (C8.pe_c C_reckoned hr (by decide) (by rfl) (pa_cons (pv 1) pa_nil)) pe_int (nomark _))))))
theorem dv_is_body (T : Tops K mg)
    (C_form_of : C8.Cal P w K mg base 1 "form_of" (sp_form_of K w) [])
    (C_is_short : C8.Cal P w K mg base 11 "is_short" (sp_is_short K w) []) :
    RunsTo P w K mg base N_is_body "is_body" s_is_body 11 (t_is_body K w) := fun f cdv A outer s H E hr =>
  (pss_cons (ps_set (i := 4) sc_is_body.nd rfl (Or.inl rfl) (pe_dget (hu_of hr) (pe_callTy (c_dictT (by rfl)) (by rfl) T.z_dict bt_dict (pa_cons (pe_ix ix_seq (pv 0) pe_int (fun _ _ => rfl)) pa_nil)) (pv 2) (fun _ _ => rfl)))
  (pss_cons (ps_if (pt_cmpR (op_eqX hr.units) (C8.pe_c C_form_of hr (by decide) (by rfl) (pa_cons (pv 0) (pa_cons (pv 1) pa_nil))) pe_str (nomark _)) (pss_one (ps_ret (C8.pe_c C_is_short hr (by decide) (by rfl) (pa_cons (pv 0) (pa_cons (pv 3) (pa_cons (pv 4) pa_nil)))))) pss_nil)
  (pss_cons (ps_if (PW.pt (pw_or (pt_not (pt_val (pe_callB call_isi (by rfl) T.z_isinstance bt_isinstance (pa_cons (pv 3) (pa_cons (pe_bltn (by rfl) T.z_tuple bt_tuple rfl) pa_nil))))) (pw_or (pt_cmpR (op_neX hr.units) (pe_callB c_len (by rfl) T.z_len bt_len (pa_cons (pv 3) pa_nil)) (pe_op op_plus pe_int (pv 4)) (nomark _)) (pw_or1 (pt_cmpR (op_neX hr.units) (pe_ix ix_seq (pv 3) pe_int (fun _ _ => rfl)) pe_str (nomark _)))))) (pss_one (ps_ret pe_bl)) pss_nil)
  (pss_cons (ps_if (pt_not (pt_val (C8.pe_c C_is_short hr (by decide) (by rfl) (pa_cons (pv 0) (pa_cons (pe_ix ix_seq (pv 3) pe_int (fun _ _ => rfl)) (pa_cons (pe_un un_neg pe_int) pa_nil)))))) (pss_one (ps_ret pe_bl)) pss_nil)
  (pss_cons (ps_for PassesOwn.never rfl (pi_tup (pe_slice sl_tup (pv 3) (po_some pe_int) po_none)) (pg_name (i := 5) sc_is_body.nd rfl (Or.inl rfl))
  (pss_cons (ps_if (PW.pt (pw_or (pt_not (pt_val (pe_callB call_isi (by rfl) T.z_isinstance bt_isinstance (pa_cons (pv 5) (pa_cons (pe_bltn (by rfl) T.z_tuple bt_tuple rfl) pa_nil))))) (pw_or (pt_cmpR (op_neX hr.units) (pe_callB c_len (by rfl) T.z_len bt_len (pa_cons (pv 5) pa_nil)) pe_int (nomark _)) (pw_or1 (pt_not (pt_val (C8.pe_c C_is_short hr (by decide) (by rfl) (pa_cons (pv 0) (pa_cons (pe_ix ix_seq (pv 5) pe_int (fun _ _ => rfl)) (pa_cons (pe_un un_neg pe_int) pa_nil)))))))))) (pss_one (ps_ret pe_bl)) pss_nil)
  (pss_one (ps_if (PW.pt (pw_or (pt_not (pt_val (pe_callB call_isi (by rfl) T.z_isinstance bt_isinstance (pa_cons (pe_ix ix_seq (pv 5) pe_int (fun _ _ => rfl)) (pa_cons (pe_bltn (by rfl) T.z_str bt_str rfl) pa_nil))))) (pw_or1 (pt_cmpR (op_notInD (hu65 hr)) (pe_tup (pa_cons (pe_ix ix_seq (pv 5) pe_int (fun _ _ => rfl)) (pa_cons pe_str pa_nil))) (lcX [("row", 6)] (by rfl) (by rfl) sc_is_body.nd (blkOk_by (N := N_is_body) (sc := defScope s_is_body) (own := [("row", 6)]) (by decide +kernel)) (pi_tup (pe_ix ix_seq (pv 0) pe_int (fun _ _ => rfl))) (fun _ _ _ _ _ => (pg_name (i := 6) sc_is_body.nd rfl (Or.inl rfl))) (fun _ _ _ _ _ => pts_nil) (fun _ _ _ _ _ => (pe_slice sl_tup (pv 6) po_none (po_some pe_int)))) (by rfl))))) (pss_one (ps_ret pe_bl)) pss_nil))))
  (pss_one (ps_ret pe_bl)))))))
theorem dv_are_asks (T : Tops K mg)
    (C_is_between : C8.Cal P w K mg base 1 "is_between" (sp_is_between K w) [])
    (C_trait_names : C8.Cal P w K mg base 1 "trait_names" (sp_trait_names K w) []) :
    RunsTo P w K mg base N_are_asks "are_asks" s_are_asks 1 (t_are_asks K w) := fun f cdv A outer s H E hr =>
  (pss_cons (ps_if (PW.pt (pw_or (pt_not (pt_val (pe_callB call_isi (by rfl) T.z_isinstance bt_isinstance (pa_cons (pv 1) (pa_cons (pe_bltn (by rfl) T.z_tuple bt_tuple rfl) pa_nil))))) (pw_or1 (pt_cmpR op_gt (pe_callB c_len (by rfl) T.z_len bt_len (pa_cons (pv 1) pa_nil)) pe_int (nomark _))))) (pss_one (ps_ret pe_bl)) pss_nil)
  (pss_cons (ps_for PassesOwn.never rfl (pi_tup (pv 1)) (pg_name (i := 3) sc_are_asks.nd rfl (Or.inl rfl))
  (pss_cons (ps_if (PW.pt (pw_or (pt_not (pt_val (pe_callB call_isi (by rfl) T.z_isinstance bt_isinstance (pa_cons (pv 3) (pa_cons (pe_bltn (by rfl) T.z_tuple bt_tuple rfl) pa_nil))))) (pw_or (pt_cmpR (op_neX hr.units) (pe_callB c_len (by rfl) T.z_len bt_len (pa_cons (pv 3) pa_nil)) pe_int (nomark _)) (pw_or1 (pt_not (pt_val (C8.pe_c C_is_between hr (by decide) (by rfl) (pa_cons (pe_ix ix_seq (pv 3) pe_int (fun _ _ => rfl)) (pa_cons pe_int (pa_cons (pe_op op_sub (pv 2) pe_int) pa_nil)))))))))) (pss_one (ps_ret pe_bl)) pss_nil)
  (pss_one (ps_if (PW.pt (pw_or (pt_not (pt_val (pe_callB call_isi (by rfl) T.z_isinstance bt_isinstance (pa_cons (pe_ix ix_seq (pv 3) pe_int (fun _ _ => rfl)) (pa_cons (pe_bltn (by rfl) T.z_str bt_str rfl) pa_nil))))) (pw_or1 (pt_cmpR op_notIn_seq (pe_ix ix_seq (pv 3) pe_int (fun _ _ => rfl)) (C8.pe_c C_trait_names hr (by decide) (by rfl) (pa_cons (pv 0) pa_nil)) (by rfl))))) (pss_one (ps_ret pe_bl)) pss_nil))))
  (pss_one (ps_ret (pe_callB (cr_all (by rfl)) (by rfl) T.z_all bt_all (pa_cons (lcX [("k", 4)] (by rfl) (by rfl) sc_are_asks.nd (blkOk_by (N := N_are_asks) (sc := defScope s_are_asks) (own := [("k", 4)]) (by decide +kernel)) (pi_range1 (by rfl) T.z_range (pa_cons (pe_op op_sub (pe_callB c_len (by rfl) T.z_len bt_len (pa_cons (pv 1) pa_nil)) pe_int) pa_nil)) (fun _ _ _ _ _ => (pg_name (i := 4) sc_are_asks.nd rfl (Or.inl rfl))) (fun _ _ _ _ _ => pts_nil) (fun _ _ _ _ _ => (pe_cmpR (op_ltD hr.units) (pe_ix ix_seq (pv 1) (pv 4) (fun _ _ => rfl)) (pe_ix ix_seq (pv 1) (pe_op op_plus (pv 4) pe_int) (fun _ _ => rfl)) (nomark _)))) pa_nil))))))
theorem dv_is_known_instance (T : Tops K mg)
    (C_trait_names : C8.Cal P w K mg base 1 "trait_names" (sp_trait_names K w) [])
    (C_are_asks : C8.Cal P w K mg base 2 "are_asks" (sp_are_asks K w) [])
    (C_is_body : C8.Cal P w K mg base 12 "is_body" (sp_is_body K w) []) :
    RunsTo P w K mg base N_is_known_instance "is_known_instance" s_is_known_instance 12 (t_is_known_instance K w) := fun f cdv A outer s H E hr =>
  (pss_cons (ps_if (PW.pt (pw_or (pt_not (pt_val (pe_callB call_isi (by rfl) T.z_isinstance bt_isinstance (pa_cons (pv 1) (pa_cons (pe_bltn (by rfl) T.z_tuple bt_tuple rfl) pa_nil))))) (pw_or (pt_cmpR (op_neX hr.units) (pe_callB c_len (by rfl) T.z_len bt_len (pa_cons (pv 1) pa_nil)) pe_int (nomark _)) (pw_or1 (pt_not (pt_val (pe_callB (cr_all (by rfl)) (by rfl) T.z_all bt_all (pa_cons (lcX [("one", 2)] (by rfl) (by rfl) sc_is_known_instance.nd (blkOk_by (N := N_is_known_instance) (sc := defScope s_is_known_instance) (own := [("one", 2)]) (by decide +kernel)) (pi_tup (pe_slice sl_tup (pv 1) po_none (po_some pe_int))) (fun _ _ _ _ _ => (pg_name (i := 2) sc_is_known_instance.nd rfl (Or.inl rfl))) (fun _ _ _ _ _ => pts_nil) (fun _ _ _ _ _ => (pe_callB call_isi (by rfl) T.z_isinstance bt_isinstance (pa_cons (pv 2) (pa_cons (pe_bltn (by rfl) T.z_str bt_str rfl) pa_nil))))) pa_nil)))))))) (pss_one (ps_ret pe_bl)) pss_nil)
  (pss_cons (ps_asg (pv 1) (pg_tup (by rfl) (pgs_cons (pg_name (i := 3) sc_is_known_instance.nd rfl (Or.inl rfl)) (pgs_cons (pg_name (i := 4) sc_is_known_instance.nd rfl (Or.inl rfl)) (pgs_cons (pg_name (i := 5) sc_is_known_instance.nd rfl (Or.inl rfl)) (pgs_cons (pg_name (i := 6) sc_is_known_instance.nd rfl (Or.inl rfl)) (pgs_cons (pg_name (i := 7) sc_is_known_instance.nd rfl (Or.inl rfl)) pgs_nil)))))))
  (pss_cons (ps_set (i := 8) sc_is_known_instance.nd rfl (Or.inr rfl) (pe_callTy (c_dictT (by rfl)) (by rfl) T.z_dict bt_dict (pa_cons (pe_ix ix_seq (pv 0) pe_int (fun _ _ => rfl)) pa_nil)))
  (pss_cons (ps_if (PW.pt (pw_or (pt_cmpR op_notIn_seq (pv 3) (C8.pe_c C_trait_names hr (by decide) (by rfl) (pa_cons (pv 0) pa_nil)) (by rfl)) (pw_or (pt_cmp (pc_dnotin (hu_of hr) (pv 4) (pv 8)) rfl) (pw_or1 (pt_not (pt_val (pe_callB call_isi (by rfl) T.z_isinstance bt_isinstance (pa_cons (pv 5) (pa_cons (pe_bltn (by rfl) T.z_tuple bt_tuple rfl) pa_nil))))))))) (pss_one (ps_ret pe_bl)) pss_nil)
  (pss_cons (ps_if (pt_cmpR (op_neX hr.units) (pe_callB c_len (by rfl) T.z_len bt_len (pa_cons (pv 5) pa_nil)) (pe_dget (hu_of hr) (pv 8) (pv 4) (fun _ _ => rfl)) (nomark _)) (pss_one (ps_ret pe_bl)) pss_nil)
  (pss_cons (ps_if (pt_not (pt_val (pe_callB (cr_all (by rfl)) (by rfl) T.z_all bt_all (pa_cons (lcX [("limit", 9)] (by rfl) (by rfl) sc_is_known_instance.nd (blkOk_by (N := N_is_known_instance) (sc := defScope s_is_known_instance) (own := [("limit", 9)]) (by decide +kernel)) (pi_tup (pv 5)) (fun _ _ _ _ _ => (pg_name (i := 9) sc_is_known_instance.nd rfl (Or.inl rfl))) (fun _ _ _ _ _ => pts_nil) (fun _ _ _ _ _ => (pe_or (pe_cmpR op_isN1 (pv 9) pe_non (nomark _)) (pe_one (pe_and (pe_callB call_isi (by rfl) T.z_isinstance bt_isinstance (pa_cons (pv 9) (pa_cons (pe_bltn (by rfl) T.z_str bt_str rfl) pa_nil))) (pe_one (pe_cmp (pc_din (hu_of hr) (pv 9) (pv 8)) rfl))))))) pa_nil)))) (pss_one (ps_ret pe_bl)) pss_nil)
  (pss_one (ps_ret (pe_and (C8.pe_c C_are_asks hr (by decide) (by rfl) (pa_cons (pv 0) (pa_cons (pv 6) (pa_cons (pe_dget (hu_of hr) (pv 8) (pv 4) (fun _ _ => rfl)) pa_nil)))) (pe_one (C8.pe_c C_is_body hr (by decide) (by rfl) (pa_cons (pv 0) (pa_cons (pv 3) (pa_cons (pv 4) (pa_cons (pv 7) pa_nil)))))))))))))))
theorem dv_are_instances (T : Tops K mg)
    (C_is_known_instance : C8.Cal P w K mg base 13 "is_known_instance" (sp_is_known_instance K w) []) :
    RunsTo P w K mg base N_are_instances "are_instances" s_are_instances 13 (t_are_instances K w) := fun f cdv A outer s H E hr =>
  (pss_one (ps_ret (pe_and (pe_callB call_isi (by rfl) T.z_isinstance bt_isinstance (pa_cons (pv 1) (pa_cons (pe_bltn (by rfl) T.z_tuple bt_tuple rfl) pa_nil))) (pe_and (pe_cmpR op_le (pe_callB c_len (by rfl) T.z_len bt_len (pa_cons (pv 1) pa_nil)) (pv 2) (nomark _)) (pe_one (pe_callB (cr_all (by rfl)) (by rfl) T.z_all bt_all (pa_cons (lcX [("one", 3)] (by rfl) (by rfl) sc_are_instances.nd (blkOk_by (N := N_are_instances) (sc := defScope s_are_instances) (own := [("one", 3)]) (by decide +kernel)) (pi_tup (pv 1)) (fun _ _ _ _ _ => (pg_name (i := 3) sc_are_instances.nd rfl (Or.inl rfl))) (fun _ _ _ _ _ => pts_nil) (fun _ _ _ _ _ => (C8.pe_c C_is_known_instance hr (by decide) (by rfl) (pa_cons (pv 0) (pa_cons (pv 3) pa_nil))))) pa_nil)))))))
theorem dv_body_asks {n : Nat} (T : Tops K mg)
    (C_self : C8.Cal P w K mg base (0 + n) "body_asks" (sp_body_asks K w n) []) :
    RunsTo P w K mg base N_body_asks "body_asks" s_body_asks (0 + n) (t_body_asks K w n) := fun f cdv A outer s H E hr =>
  (pss_cons (ps_if (pt_cmpR (op_eqX hr.units) (pe_ix ix_seq (pv 0) pe_int (fun _ _ => rfl)) pe_str (nomark _)) (pss_one (ps_ret (pe_lst (pa_cons (pe_tup (pa_cons (pe_ix ix_seq (pv 0) pe_int (fun _ _ => rfl)) (pa_cons (pe_ix ix_seq (pv 0) pe_int (fun _ _ => rfl)) pa_nil))) pa_nil)))) pss_nil)
  (pss_cons (ps_if (pt_cmpR (op_eqX hr.units) (pe_ix ix_seq (pv 0) pe_int (fun _ _ => rfl)) pe_str (nomark _)) (pss_one (ps_ret (lcX [("part", 1), ("pair", 2)] (by rfl) (by rfl) sc_body_asks.nd (blkOk_by (N := N_body_asks) (sc := defScope s_body_asks) (own := [("part", 1), ("pair", 2)]) (by decide +kernel)) (pi_enumT (by rfl) T.z_enumerate (pa_cons (pe_slice sl_tup (pv 0) (po_some pe_int) po_none) pa_nil)) (fun _ _ _ _ _ => (pg_tup (by rfl) (pgs_cons (pg_name (i := 1) sc_body_asks.nd rfl (Or.inl rfl)) (pgs_cons (pg_name (i := 2) sc_body_asks.nd rfl (Or.inl rfl)) pgs_nil)))) (fun _ _ _ _ _ => pts_nil) (fun _ _ _ _ _ => (pe_tup (pa_cons (pe_ix ix_seq (pv 2) pe_int (fun _ _ => rfl)) (pa_cons (pv 1) pa_nil))))))) pss_nil)
  (pss_cons (ps_set (i := 3) sc_body_asks.nd rfl (Or.inl rfl) (pe_lst pa_nil))
  (pss_cons (ps_for PassesOwn.never rfl (pi_tup (pe_slice sl_tup (pv 0) (po_some pe_int) po_none)) (pg_name (i := 4) sc_body_asks.nd rfl (Or.inl rfl))
  (pss_one (ps_if (pt_val (pe_callB call_isi (by rfl) T.z_isinstance bt_isinstance (pa_cons (pv 4) (pa_cons (pe_bltn (by rfl) T.z_tuple bt_tuple rfl) pa_nil)))) (pss_one (ps_expr (pe_bm PySem.F.plainAttrs_list PySem.F.slot_list_extend PySem.F.type_list_extend mt_extend (pv 3) (pa_cons (C8.pe_c C_self hr (Nat.le_refl _) (by rfl) (pa_cons (pv 4) pa_nil)) pa_nil)))) pss_nil)))
  (pss_one (ps_ret (pv 3)))))))
theorem dv_are_rising (T : Tops K mg) :
    RunsTo P w K mg base N_are_rising "are_rising" s_are_rising 0 (t_are_rising K w) := fun f cdv A outer s H E hr =>
  (pss_cons (ps_if (PW.pt (pw_or (pt_not (pt_val (pe_callB call_isi (by rfl) T.z_isinstance bt_isinstance (pa_cons (pv 0) (pa_cons (pe_bltn (by rfl) T.z_tuple bt_tuple rfl) pa_nil))))) (pw_or1 (pt_not (pt_val (pe_callB (cr_all (by rfl)) (by rfl) T.z_all bt_all (pa_cons (lcX [("one", 2)] (by rfl) (by rfl) sc_are_rising.nd (blkOk_by (N := N_are_rising) (sc := defScope s_are_rising) (own := [("one", 2)]) (by decide +kernel)) (pi_tup (pv 0)) (fun _ _ _ _ _ => (pg_name (i := 2) sc_are_rising.nd rfl (Or.inl rfl))) (fun _ _ _ _ _ => pts_nil) (fun _ _ _ _ _ => (pe_cmpR op_in_seq (pv 2) (pv 1) (by rfl)))) pa_nil))))))) (pss_one (ps_ret pe_bl)) pss_nil)
  (pss_one (ps_ret (pe_callB (cr_all (by rfl)) (by rfl) T.z_all bt_all (pa_cons (lcX [("k", 3)] (by rfl) (by rfl) sc_are_rising.nd (blkOk_by (N := N_are_rising) (sc := defScope s_are_rising) (own := [("k", 3)]) (by decide +kernel)) (pi_range1 (by rfl) T.z_range (pa_cons (pe_op op_sub (pe_callB c_len (by rfl) T.z_len bt_len (pa_cons (pv 0) pa_nil)) pe_int) pa_nil)) (fun _ _ _ _ _ => (pg_name (i := 3) sc_are_rising.nd rfl (Or.inl rfl))) (fun _ _ _ _ _ => pts_nil) (fun _ _ _ _ _ => (pe_cmpR (op_ltD hr.units) (pe_ix ix_seq (pv 0) (pv 3) (fun _ _ => rfl)) (pe_ix ix_seq (pv 0) (pe_op op_plus (pv 3) pe_int) (fun _ _ => rfl)) (nomark _)))) pa_nil)))))
theorem dv_is_module (T : Tops K mg)
    (C_is_between : C8.Cal P w K mg base 1 "is_between" (sp_is_between K w) [])
    (C_are_rising : C8.Cal P w K mg base 1 "are_rising" (sp_are_rising K w) [])
    (C_are_instances : C8.Cal P w K mg base 14 "are_instances" (sp_are_instances K w) [])
    (C_trait_names : C8.Cal P w K mg base 1 "trait_names" (sp_trait_names K w) []) :
    RunsTo P w K mg base N_is_module "is_module" s_is_module 14 (t_is_module K w) := fun f cdv A outer s H E hr =>
  (pss_cons (ps_if (PW.pt (pw_or (pt_not (pt_val (pe_callB call_isi (by rfl) T.z_isinstance bt_isinstance (pa_cons (pv 1) (pa_cons (pe_bltn (by rfl) T.z_tuple bt_tuple rfl) pa_nil))))) (pw_or1 (pt_cmpR (op_neX hr.units) (pe_callB c_len (by rfl) T.z_len bt_len (pa_cons (pv 1) pa_nil)) pe_int (nomark _))))) (pss_one (ps_ret pe_bl)) pss_nil)
  (pss_cons (ps_asg (pv 1) (pg_tup (by rfl) (pgs_cons (pg_name (i := 3) sc_is_module.nd rfl (Or.inl rfl)) (pgs_cons (pg_name (i := 4) sc_is_module.nd rfl (Or.inl rfl)) (pgs_cons (pg_name (i := 5) sc_is_module.nd rfl (Or.inl rfl)) (pgs_cons (pg_name (i := 6) sc_is_module.nd rfl (Or.inl rfl)) pgs_nil))))))
  (pss_cons (ps_if (PW.pt (pw_or (pt_not (pt_val (pe_callB call_isi (by rfl) T.z_isinstance bt_isinstance (pa_cons (pv 3) (pa_cons (pe_bltn (by rfl) T.z_tuple bt_tuple rfl) pa_nil))))) (pw_or1 (pt_not (pt_val (pe_callB (cr_all (by rfl)) (by rfl) T.z_all bt_all (pa_cons (lcX [("one", 7)] (by rfl) (by rfl) sc_is_module.nd (blkOk_by (N := N_is_module) (sc := defScope s_is_module) (own := [("one", 7)]) (by decide +kernel)) (pi_tup (pv 3)) (fun _ _ _ _ _ => (pg_name (i := 7) sc_is_module.nd rfl (Or.inl rfl))) (fun _ _ _ _ _ => pts_nil) (fun _ _ _ _ _ => (C8.pe_c C_is_between hr (by decide) (by rfl) (pa_cons (pv 7) (pa_cons pe_int (pa_cons (pe_op op_sub (pv 2) pe_int) pa_nil)))))) pa_nil))))))) (pss_one (ps_ret pe_bl)) pss_nil)
  (pss_cons (ps_if (PW.pt (pw_or (pt_not (pt_val (C8.pe_c C_are_rising hr (by decide) (by rfl) (pa_cons (pv 3) (pa_cons (pv 3) pa_nil))))) (pw_or1 (pt_not (pt_val (C8.pe_c C_are_instances hr (by decide) (by rfl) (pa_cons (pv 0) (pa_cons (pv 6) (pa_cons pe_int pa_nil))))))))) (pss_one (ps_ret pe_bl)) pss_nil)
  (pss_cons (ps_for PassesOwn.never rfl (pi_tup (pe_tup (pa_cons (pv 4) (pa_cons (pv 5) pa_nil)))) (pg_name (i := 8) sc_is_module.nd rfl (Or.inl rfl))
  (pss_one (ps_if (PW.pt (pw_or (pt_not (pt_val (pe_callB call_isi (by rfl) T.z_isinstance bt_isinstance (pa_cons (pv 8) (pa_cons (pe_bltn (by rfl) T.z_tuple bt_tuple rfl) pa_nil))))) (pw_or1 (pt_not (pt_val (pe_callB (cr_all (by rfl)) (by rfl) T.z_all bt_all (pa_cons (lcX [("one", 7)] (by rfl) (by rfl) sc_is_module.nd (blkOk_by (N := N_is_module) (sc := defScope s_is_module) (own := [("one", 7)]) (by decide +kernel)) (pi_tup (pv 8)) (fun _ _ _ _ _ => (pg_name (i := 7) sc_is_module.nd rfl (Or.inl rfl))) (fun _ _ _ _ _ => pts_nil) (fun _ _ _ _ _ => (pe_callB call_isi (by rfl) T.z_isinstance bt_isinstance (pa_cons (pv 7) (pa_cons (pe_bltn (by rfl) T.z_str bt_str rfl) pa_nil))))) pa_nil))))))) (pss_one (ps_ret pe_bl)) pss_nil)))
  (pss_one (ps_ret (pe_and (C8.pe_c C_are_rising hr (by decide) (by rfl) (pa_cons (pv 4) (pa_cons (lcX [("one", 7)] (by rfl) (by rfl) sc_is_module.nd (blkOk_by (N := N_is_module) (sc := defScope s_is_module) (own := [("one", 7)]) (by decide +kernel)) (pi_tup (pe_ix ix_seq (pv 0) pe_int (fun _ _ => rfl))) (fun _ _ _ _ _ => (pg_name (i := 7) sc_is_module.nd rfl (Or.inl rfl))) (fun _ _ _ _ _ => pts_nil) (fun _ _ _ _ _ => (pe_ix ix_seq (pv 7) pe_int (fun _ _ => rfl)))) pa_nil))) (pe_one (C8.pe_c C_are_rising hr (by decide) (by rfl) (pa_cons (pv 5) (pa_cons (C8.pe_c C_trait_names hr (by decide) (by rfl) (pa_cons (pv 0) pa_nil)) pa_nil))))))))))))
theorem dv_seen_from (T : Tops K mg) :
    RunsTo P w K mg base N_seen_from "seen_from" s_seen_from 0 (t_seen_from K w) := fun f cdv A outer s H E hr =>
  (pss_cons (ps_par (i := 2) (j := 3) rfl sc_seen_from.nd rfl rfl (by decide) rfl rfl (pa_cons pe_dnewK (pa_cons (pe_callTy c_list (by rfl) T.z_list bt_list (pa_cons (pv 1) pa_nil)) pa_nil)) (by rfl))
  (pss_cons (ps_while PassesOwn.never (pt_cmpR (op_neX hr.units) (pv 3) (pe_lst pa_nil) (nomark _))
  (pss_cons (ps_set (i := 4) sc_seen_from.nd rfl (Or.inl rfl) (pe_bm0 PySem.F.plainAttrs_list PySem.F.slot_list_pop PySem.F.type_list_pop mt_pop (pv 3)))
  (pss_one (ps_if (pt_cmp (pc_dnotin (hu_of hr) (pv 4) (pv 2)) rfl) (pss_cons (ps_dput (hu_of hr) (pv 2) (pv 4) pe_bl rfl)
  (pss_one (ps_expr (pe_bm PySem.F.plainAttrs_list PySem.F.slot_list_extend PySem.F.type_list_extend mt_extendT (pv 3) (pa_cons (pe_ix ix_seq (pe_ix ix_seq (pv 0) (pv 4) (fun _ _ => rfl)) pe_int (fun _ _ => rfl)) pa_nil))))) pss_nil))))
  (pss_one (ps_ret (pe_callB (c_sortedK (by rfl)) (by rfl) T.z_sorted bt_sorted (pa_cons (pv 2) pa_nil))))))
theorem dv_is_known (T : Tops K mg)
    (C_seen_from : C8.Cal P w K mg base 1 "seen_from" (sp_seen_from K w) [])
    (C_body_asks : C8.Cal P w K mg base 9 "body_asks" (sp_body_asks K w 9) []) :
    RunsTo P w K mg base N_is_known "is_known" s_is_known 9 (t_is_known K w) := fun f cdv A outer s H E hr =>
  (pss_cons (ps_set (i := 3) sc_is_known.nd rfl (Or.inl rfl) (C8.pe_c C_seen_from hr (by decide) (by rfl) (pa_cons (pv 1) (pa_cons (pe_lst (pa_cons (pv 2) pa_nil)) pa_nil))))
  (pss_cons (ps_set (i := 4) sc_is_known.nd rfl (Or.inr rfl) (lc2X [("one", 5), ("name", 6)] (by rfl) (by rfl) sc_is_known.nd (blkOk_by (N := N_is_known) (sc := defScope s_is_known) (own := [("one", 5), ("name", 6)]) (by decide +kernel)) (vs1 := [6]) (by decide) (pi_list (pv 3)) (fun _ _ _ _ _ => (pg_name (i := 5) sc_is_known.nd rfl (Or.inl rfl))) (fun _ _ _ _ _ => pts_nil) (fun _ _ _ _ _ => (pi_tup (pe_ix ix_seq (pe_ix ix_seq (pv 1) (pv 5) (fun _ _ => rfl)) pe_int (fun _ _ => rfl)))) (fun _ _ _ _ _ => (pg_name (i := 6) sc_is_known.nd rfl (Or.inl rfl))) (fun _ _ _ _ _ => pts_nil) (fun _ _ _ _ _ => (pv 6))))
  (pss_cons (ps_set (i := 7) sc_is_known.nd rfl (Or.inr rfl) (lc2X [("one", 5), ("name", 6)] (by rfl) (by rfl) sc_is_known.nd (blkOk_by (N := N_is_known) (sc := defScope s_is_known) (own := [("one", 5), ("name", 6)]) (by decide +kernel)) (vs1 := [6]) (by decide) (pi_list (pv 3)) (fun _ _ _ _ _ => (pg_name (i := 5) sc_is_known.nd rfl (Or.inl rfl))) (fun _ _ _ _ _ => pts_nil) (fun _ _ _ _ _ => (pi_tup (pe_ix ix_seq (pe_ix ix_seq (pv 1) (pv 5) (fun _ _ => rfl)) pe_int (fun _ _ => rfl)))) (fun _ _ _ _ _ => (pg_name (i := 6) sc_is_known.nd rfl (Or.inl rfl))) (fun _ _ _ _ _ => pts_nil) (fun _ _ _ _ _ => (pv 6))))
  (pss_cons (ps_for PassesOwn.never rfl (pi_tup (pe_ix ix_seq (pv 0) pe_int (fun _ _ => rfl))) (pg_tup (by rfl) (pgs_cons (pg_name (i := 6) sc_is_known.nd rfl (Or.inl rfl)) (pgs_cons (pg_name (i := 8) sc_is_known.nd rfl (Or.inl rfl)) (pgs_cons (pg_name (i := 9) sc_is_known.nd rfl (Or.inl rfl)) pgs_nil))))
  (pss_one (ps_if (PW.pt (pw_and (pt_cmpR op_in_seq (pv 6) (pe_ix ix_seq (pe_ix ix_seq (pv 1) (pv 2) (fun _ _ => rfl)) pe_int (fun _ _ => rfl)) (by rfl)) (pw_and1 (pt_not (pt_val (pe_callB (cr_all (by rfl)) (by rfl) T.z_all bt_all (pa_cons (lcX [("one", 5)] (by rfl) (by rfl) sc_is_known.nd (blkOk_by (N := N_is_known) (sc := defScope s_is_known) (own := [("one", 5)]) (by decide +kernel)) (pi_tup (pv 9)) (fun _ _ _ _ _ => (pg_name (i := 5) sc_is_known.nd rfl (Or.inl rfl))) (fun _ _ _ _ _ => pts_nil) (fun _ _ _ _ _ => (pe_cmpR op_in_seq (pv 5) (pv 7) (by rfl)))) pa_nil))))))) (pss_one (ps_ret pe_bl)) pss_nil)))
  (pss_cons (ps_for PassesOwn.never rfl (pi_tup (pe_ix ix_seq (pe_ix ix_seq (pv 1) (pv 2) (fun _ _ => rfl)) pe_int (fun _ _ => rfl))) (pg_tup (by rfl) (pgs_cons (pg_name (i := 10) sc_is_known.nd rfl (Or.inl rfl)) (pgs_cons (pg_name (i := 11) sc_is_known.nd rfl (Or.inl rfl)) (pgs_cons (pg_name (i := 12) sc_is_known.nd rfl (Or.inl rfl)) (pgs_cons (pg_name (i := 13) sc_is_known.nd rfl (Or.inl rfl)) (pgs_cons (pg_name (i := 14) sc_is_known.nd rfl (Or.inl rfl)) pgs_nil))))))
  (pss_cons (ps_set (i := 15) sc_is_known.nd rfl (Or.inl rfl) (pe_op op_plus (pe_lst (pa_cons (pv 11) pa_nil)) (lcX [("limit", 16)] (by rfl) (by rfl) sc_is_known.nd (blkOk_by (N := N_is_known) (sc := defScope s_is_known) (own := [("limit", 16)]) (by decide +kernel)) (pi_tup (pv 12)) (fun _ _ _ _ _ => (pg_name (i := 16) sc_is_known.nd rfl (Or.inl rfl))) (fun _ _ _ _ _ => (pts_one (pt_cmpR op_notN1 (pv 16) pe_non (nomark _)))) (fun _ _ _ _ _ => (pv 16)))))
  (pss_cons (ps_set (i := 17) sc_is_known.nd rfl (Or.inl rfl) (pe_op op_plus (pe_op op_plus (pe_lst (pa_cons (pv 10) pa_nil)) (lcX [("ask", 18)] (by rfl) (by rfl) sc_is_known.nd (blkOk_by (N := N_is_known) (sc := defScope s_is_known) (own := [("ask", 18)]) (by decide +kernel)) (pi_tup (pv 13)) (fun _ _ _ _ _ => (pg_name (i := 18) sc_is_known.nd rfl (Or.inl rfl))) (fun _ _ _ _ _ => pts_nil) (fun _ _ _ _ _ => (pe_ix ix_seq (pv 18) pe_int (fun _ _ => rfl))))) (lcX [("ask", 18)] (by rfl) (by rfl) sc_is_known.nd (blkOk_by (N := N_is_known) (sc := defScope s_is_known) (own := [("ask", 18)]) (by decide +kernel)) (pi_list (C8.pe_c C_body_asks hr (by decide) (by rfl) (pa_cons (pv 14) pa_nil))) (fun _ _ _ _ _ => (pg_name (i := 18) sc_is_known.nd rfl (Or.inl rfl))) (fun _ _ _ _ _ => pts_nil) (fun _ _ _ _ _ => (pe_ix ix_seq (pv 18) pe_int (fun _ _ => rfl))))))
  (pss_one (ps_if (PW.pt (pw_or (pt_not (pt_val (pe_callB (cr_all (by rfl)) (by rfl) T.z_all bt_all (pa_cons (lcX [("one", 5)] (by rfl) (by rfl) sc_is_known.nd (blkOk_by (N := N_is_known) (sc := defScope s_is_known) (own := [("one", 5)]) (by decide +kernel)) (pi_list (pv 15)) (fun _ _ _ _ _ => (pg_name (i := 5) sc_is_known.nd rfl (Or.inl rfl))) (fun _ _ _ _ _ => pts_nil) (fun _ _ _ _ _ => (pe_cmpR op_in_seq (pv 5) (pv 4) (by rfl)))) pa_nil)))) (pw_or1 (pt_not (pt_val (pe_callB (cr_all (by rfl)) (by rfl) T.z_all bt_all (pa_cons (lcX [("one", 5)] (by rfl) (by rfl) sc_is_known.nd (blkOk_by (N := N_is_known) (sc := defScope s_is_known) (own := [("one", 5)]) (by decide +kernel)) (pi_list (pv 17)) (fun _ _ _ _ _ => (pg_name (i := 5) sc_is_known.nd rfl (Or.inl rfl))) (fun _ _ _ _ _ => pts_nil) (fun _ _ _ _ _ => (pe_cmpR op_in_seq (pv 5) (pv 7) (by rfl)))) pa_nil))))))) (pss_one (ps_ret pe_bl)) pss_nil)))))
  (pss_one (ps_ret pe_bl)))))))
theorem dv_is_library (T : Tops K mg)
    (C_check_world : C8.Cal P w K mg base 4 "check_world" (sp_check_world K w) [])
    (C_is_module : C8.Cal P w K mg base 15 "is_module" (sp_is_module K w) [])
    (C_trait_names : C8.Cal P w K mg base 1 "trait_names" (sp_trait_names K w) [])
    (C_is_known : C8.Cal P w K mg base 10 "is_known" (sp_is_known K w) []) :
    RunsTo P w K mg base N_is_library "is_library" s_is_library 15 (t_is_library K w) := fun f cdv A outer s H E hr =>
  (pss_cons (ps_expr (C8.pe_c C_check_world hr (by decide) (by rfl) (pa_cons (pv 0) pa_nil)))
  (pss_cons (ps_if (PW.pt (pw_or (pt_not (pt_val (pe_callB call_isi (by rfl) T.z_isinstance bt_isinstance (pa_cons (pv 1) (pa_cons (pe_bltn (by rfl) T.z_tuple bt_tuple rfl) pa_nil))))) (pw_or1 (pt_not (pt_chain op_le op_le pe_int (pe_callB c_len (by rfl) T.z_len bt_len (pa_cons (pv 1) pa_nil)) pe_int))))) (pss_one (ps_ret pe_bl)) pss_nil)
  (pss_cons (ps_if (pt_not (pt_val (pe_callB (cr_all (by rfl)) (by rfl) T.z_all bt_all (pa_cons (lcX [("place", 2), ("one", 3)] (by rfl) (by rfl) sc_is_library.nd (blkOk_by (N := N_is_library) (sc := defScope s_is_library) (own := [("place", 2), ("one", 3)]) (by decide +kernel)) (pi_enumT (by rfl) T.z_enumerate (pa_cons (pv 1) pa_nil)) (fun _ _ _ _ _ => (pg_tup (by rfl) (pgs_cons (pg_name (i := 2) sc_is_library.nd rfl (Or.inl rfl)) (pgs_cons (pg_name (i := 3) sc_is_library.nd rfl (Or.inl rfl)) pgs_nil)))) (fun _ _ _ _ _ => pts_nil) (fun _ _ _ _ _ => (C8.pe_c C_is_module hr (by decide) (by rfl) (pa_cons (pv 0) (pa_cons (pv 3) (pa_cons (pv 2) pa_nil)))))) pa_nil)))) (pss_one (ps_ret pe_bl)) pss_nil)
  (pss_cons (ps_set (i := 4) sc_is_library.nd rfl (Or.inl rfl) (pe_callB (c_sortedD hr.units) (by rfl) T.z_sorted bt_sorted (pa_cons (lc2X [("one", 3), ("name", 5)] (by rfl) (by rfl) sc_is_library.nd (blkOk_by (N := N_is_library) (sc := defScope s_is_library) (own := [("one", 3), ("name", 5)]) (by decide +kernel)) (vs1 := [5]) (by decide) (pi_tup (pv 1)) (fun _ _ _ _ _ => (pg_name (i := 3) sc_is_library.nd rfl (Or.inl rfl))) (fun _ _ _ _ _ => pts_nil) (fun _ _ _ _ _ => (pi_tup (pe_ix ix_seq (pv 3) pe_int (fun _ _ => rfl)))) (fun _ _ _ _ _ => (pg_name (i := 5) sc_is_library.nd rfl (Or.inl rfl))) (fun _ _ _ _ _ => pts_nil) (fun _ _ _ _ _ => (pv 5))) pa_nil)))
  (pss_cons (ps_set (i := 6) sc_is_library.nd rfl (Or.inl rfl) (pe_callB (c_sortedD hr.units) (by rfl) T.z_sorted bt_sorted (pa_cons (lc2X [("one", 3), ("name", 5)] (by rfl) (by rfl) sc_is_library.nd (blkOk_by (N := N_is_library) (sc := defScope s_is_library) (own := [("one", 3), ("name", 5)]) (by decide +kernel)) (vs1 := [5]) (by decide) (pi_tup (pv 1)) (fun _ _ _ _ _ => (pg_name (i := 3) sc_is_library.nd rfl (Or.inl rfl))) (fun _ _ _ _ _ => pts_nil) (fun _ _ _ _ _ => (pi_tup (pe_ix ix_seq (pv 3) pe_int (fun _ _ => rfl)))) (fun _ _ _ _ _ => (pg_name (i := 5) sc_is_library.nd rfl (Or.inl rfl))) (fun _ _ _ _ _ => pts_nil) (fun _ _ _ _ _ => (pv 5))) pa_nil)))
  (pss_cons (ps_if (PW.pt (pw_or (pt_cmpR (op_neX hr.units) (pv 4) (lcX [("one", 3)] (by rfl) (by rfl) sc_is_library.nd (blkOk_by (N := N_is_library) (sc := defScope s_is_library) (own := [("one", 3)]) (by decide +kernel)) (pi_tup (pe_ix ix_seq (pv 0) pe_int (fun _ _ => rfl))) (fun _ _ _ _ _ => (pg_name (i := 3) sc_is_library.nd rfl (Or.inl rfl))) (fun _ _ _ _ _ => pts_nil) (fun _ _ _ _ _ => (pe_ix ix_seq (pv 3) pe_int (fun _ _ => rfl)))) (nomark _)) (pw_or1 (pt_cmpR (op_neX hr.units) (pv 6) (pe_callB (c_sortedD hr.units) (by rfl) T.z_sorted bt_sorted (pa_cons (C8.pe_c C_trait_names hr (by decide) (by rfl) (pa_cons (pv 0) pa_nil)) pa_nil)) (nomark _))))) (pss_one (ps_ret pe_bl)) pss_nil)
  (pss_one (ps_ret (pe_callB (cr_all (by rfl)) (by rfl) T.z_all bt_all (pa_cons (lcX [("place", 2)] (by rfl) (by rfl) sc_is_library.nd (blkOk_by (N := N_is_library) (sc := defScope s_is_library) (own := [("place", 2)]) (by decide +kernel)) (pi_range1 (by rfl) T.z_range (pa_cons (pe_callB c_len (by rfl) T.z_len bt_len (pa_cons (pv 1) pa_nil)) pa_nil)) (fun _ _ _ _ _ => (pg_name (i := 2) sc_is_library.nd rfl (Or.inl rfl))) (fun _ _ _ _ _ => pts_nil) (fun _ _ _ _ _ => (C8.pe_c C_is_known hr (by decide) (by rfl) (pa_cons (pv 0) (pa_cons (pv 1) (pa_cons (pv 2) pa_nil)))))) pa_nil))))))))))
theorem dv_check_library (T : Tops K mg)
    (C_check_world : C8.Cal P w K mg base 4 "check_world" (sp_check_world K w) [])
    (C_is_library : C8.Cal P w K mg base 16 "is_library" (sp_is_library K w) []) :
    RunsTo P w K mg base N_check_library "check_library" s_check_library 16 (t_check_library K w) := fun f cdv A outer s H E hr =>
  (pss_cons (ps_expr (C8.pe_c C_check_world hr (by decide) (by rfl) (pa_cons (pv 0) pa_nil)))
  (pss_one (ps_if (pt_not (pt_val (C8.pe_c C_is_library hr (by decide) (by rfl) (pa_cons (pv 0) (pa_cons (pv 1) pa_nil))))) (pss_one ps_never) pss_nil)))
theorem dv_check_module (T : Tops K mg)
    (C_is_between : C8.Cal P w K mg base 1 "is_between" (sp_is_between K w) []) :
    RunsTo P w K mg base N_check_module "check_module" s_check_module 1 (t_check_module K w) := fun f cdv A outer s H E hr =>
  (pss_one (ps_if (pt_not (pt_val (C8.pe_c C_is_between hr (by decide) (by rfl) (pa_cons (pv 1) (pa_cons pe_int (pa_cons (pe_op op_sub (pe_callB c_len (by rfl) T.z_len bt_len (pa_cons (pv 0) pa_nil)) pe_int) pa_nil)))))) (pss_one ps_never) pss_nil))
theorem dv_set_seen (T : Tops K mg)
    (C_seen_from : C8.Cal P w K mg base 1 "seen_from" (sp_seen_from K w) []) :
    RunsTo P w K mg base N_set_seen "set_seen" s_set_seen 1 (t_set_seen K w) := fun f cdv A outer s H E hr =>
  (pss_cons (ps_set (i := 2) sc_set_seen.nd rfl (Or.inl rfl) (pe_tup pa_nil))
  (pss_cons (ps_for PassesOwn.never rfl (pi_list (C8.pe_c C_seen_from hr (by decide) (by rfl) (pa_cons (pv 0) (pa_cons (pv 1) pa_nil)))) (pg_name (i := 3) sc_set_seen.nd rfl (Or.inl rfl))
  (pss_one (ps_set (i := 2) sc_set_seen.nd rfl (Or.inl rfl) (pe_op op_plus (pv 2) (pe_ix ix_seq (pe_ix ix_seq (pv 0) (pv 3) (fun _ _ => rfl)) pe_int (fun _ _ => rfl))))))
  (pss_one (ps_ret (pv 2)))))
theorem dv_seen_set (T : Tops K mg)
    (C_check_library : C8.Cal P w K mg base 17 "check_library" (sp_check_library K w) [])
    (C_check_module : C8.Cal P w K mg base 2 "check_module" (sp_check_module K w) [])
    (C_set_seen : C8.Cal P w K mg base 2 "set_seen" (sp_set_seen K w) []) :
    RunsTo P w K mg base N_seen_set "seen_set" s_seen_set 17 (t_seen_set K w) := fun f cdv A outer s H E hr =>
  (pss_cons (ps_expr (C8.pe_c C_check_library hr (by decide) (by rfl) (pa_cons (pv 0) (pa_cons (pv 1) pa_nil))))
  (pss_cons (ps_expr (C8.pe_c C_check_module hr (by decide) (by rfl) (pa_cons (pv 1) (pa_cons (pv 2) pa_nil))))
  (pss_one (ps_ret (C8.pe_c C_set_seen hr (by decide) (by rfl) (pa_cons (pv 1) (pa_cons (pe_lst (pa_cons (pv 2) pa_nil)) pa_nil)))))))
theorem dv_keeps_home (T : Tops K mg)
    (C_check_library : C8.Cal P w K mg base 17 "check_library" (sp_check_library K w) [])
    (C_check_module : C8.Cal P w K mg base 2 "check_module" (sp_check_module K w) []) :
    RunsTo P w K mg base N_keeps_home "keeps_home" s_keeps_home 17 (t_keeps_home K w) := fun f cdv A outer s H E hr =>
  (pss_cons (ps_expr (C8.pe_c C_check_library hr (by decide) (by rfl) (pa_cons (pv 0) (pa_cons (pv 1) pa_nil))))
  (pss_cons (ps_expr (C8.pe_c C_check_module hr (by decide) (by rfl) (pa_cons (pv 1) (pa_cons (pv 2) pa_nil))))
  (pss_cons (ps_asg (pe_ix ix_seq (pv 1) (pv 2) (fun _ _ => rfl)) (pg_tup (by rfl) (pgs_cons (pg_name (i := 3) sc_keeps_home.nd rfl (Or.inl rfl)) (pgs_cons (pg_name (i := 4) sc_keeps_home.nd rfl (Or.inr rfl)) (pgs_cons (pg_name (i := 5) sc_keeps_home.nd rfl (Or.inr rfl)) (pgs_cons (pg_name (i := 6) sc_keeps_home.nd rfl (Or.inl rfl)) pgs_nil))))))
  (pss_one (ps_ret (pe_callB (cr_all (by rfl)) (by rfl) T.z_all bt_all (pa_cons (lcX [("one", 7)] (by rfl) (by rfl) sc_keeps_home.nd (blkOk_by (N := N_keeps_home) (sc := defScope s_keeps_home) (own := [("one", 7)]) (by decide +kernel)) (pi_tup (pv 6)) (fun _ _ _ _ _ => (pg_name (i := 7) sc_keeps_home.nd rfl (Or.inl rfl))) (fun _ _ _ _ _ => pts_nil) (fun _ _ _ _ _ => (pe_or (pe_cmpR op_in_seq (pe_ix ix_seq (pv 7) pe_int (fun _ _ => rfl)) (pv 5) (by rfl)) (pe_one (pe_cmpR op_in_seq (pe_ix ix_seq (pv 7) pe_int (fun _ _ => rfl)) (pv 4) (by rfl)))))) pa_nil)))))))
theorem dv__law_town (T : Tops K mg) :
    RunsTo P w K mg base N__law_town "_law_town" s__law_town 0 (t__law_town K w) := fun f cdv A outer s H E hr =>
  (pss_one (ps_ret (pe_op op_plus (pe_lst (pa_cons pe_int pa_nil)) (pe_callTy c_list (by rfl) T.z_list bt_list (pa_cons (pv 0) pa_nil)))))
theorem dv__law_draw (T : Tops K mg) :
    RunsTo P w K mg base N__law_draw "_law_draw" s__law_draw 0 (t__law_draw K w) := fun f cdv A outer s H E hr =>
  (pss_cons (ps_asg (pe_op op_plus (pe_ix ix_seq (pv 1) pe_int (fun _ _ => rfl)) pe_int) (pg_sub (pv 1) pe_int set_list))
  (pss_cons (ps_if (pt_cmpR (op_eqX hr.units) (pv 0) (pe_lst pa_nil) (nomark _)) (pss_one (ps_ret (pe_op op_mod (pe_op op_fdiv (pe_op op_mul (pe_op op_mul (pe_ix ix_seq (pv 1) pe_int (fun _ _ => rfl)) (pe_ix ix_seq (pv 1) pe_int (fun _ _ => rfl))) pe_int) pe_int) (pv 2)))) pss_nil)
  (pss_cons (ps_set (i := 3) sc__law_draw.nd rfl (Or.inl rfl) (pe_op op_mod (pe_ix ix_seq (pv 1) pe_int (fun _ _ => rfl)) (pe_callB c_len (by rfl) T.z_len bt_len (pa_cons (pv 0) pa_nil))))
  (pss_cons (ps_set (i := 4) sc__law_draw.nd rfl (Or.inl rfl) (pe_ix ix_seq (pv 1) (pe_op op_plus pe_int (pv 3)) (fun _ _ => rfl)))
  (pss_cons (ps_if (PW.pt (pw_and (pt_cmpR op_ge (pe_ix ix_seq (pv 0) (pv 3) (fun _ _ => rfl)) (pe_op op_pow pe_int pe_int) (nomark _)) (pw_and1 (pt_cmpR op_gt (pv 4) pe_int (nomark _))))) (pss_cons (ps_asg (pe_op op_fdiv (pv 4) (pv 2)) (pg_sub (pv 1) (pe_op op_plus pe_int (pv 3)) set_list))
  (pss_one (ps_ret (pe_op op_mod (pv 4) (pv 2))))) pss_nil)
  (pss_cons (ps_set (i := 5) sc__law_draw.nd rfl (Or.inl rfl) (pe_op op_mod (pe_op op_plus (pe_ix ix_seq (pv 0) (pv 3) (fun _ _ => rfl)) (pe_op op_mul pe_int (pe_ix ix_seq (pv 1) pe_int (fun _ _ => rfl)))) pe_int))
  (pss_cons (ps_set (i := 5) sc__law_draw.nd rfl (Or.inl rfl) (pe_op op_mod (pe_op op_pow (pv 5) pe_int) pe_int))
  (pss_one (ps_ret (pe_op op_mod (pe_op op_fdiv (pe_op op_mod (pe_op op_plus (pe_op op_mul (pe_op op_fdiv (pv 5) pe_int) pe_int) (pv 5)) pe_int) pe_int) (pv 2)))))))))))
theorem dv__law_pick (T : Tops K mg)
    (C__law_draw : C8.Cal P w K mg base 1 "_law_draw" (sp__law_draw K w) []) :
    RunsTo P w K mg base N__law_pick "_law_pick" s__law_pick 1 (t__law_pick K w) := fun f cdv A outer s H E hr =>
  (pss_one (ps_ret (pe_ix ix_seq (pv 2) (C8.pe_c C__law_draw hr (by decide) (by rfl) (pa_cons (pv 0) (pa_cons (pv 1) (pa_cons (pe_callB c_len (by rfl) T.z_len bt_len (pa_cons (pv 2) pa_nil)) pa_nil)))) (fun _ _ => rfl))))
theorem dv__law_world (T : Tops K mg)
    (C__law_draw : C8.Cal P w K mg base 1 "_law_draw" (sp__law_draw K w) [])
    (C__law_pick : C8.Cal P w K mg base 2 "_law_pick" (sp__law_pick K w) []) :
    RunsTo P w K mg base N__law_world "_law_world" s__law_world 2 (t__law_world K w) := fun f cdv A outer s H E hr =>
  (pss_cons (ps_set (i := 2) sc__law_world.nd rfl (Or.inl rfl) (pe_lst (pa_cons (pe_tupF (pa_cons (pe_tup (pa_cons pe_str (pa_cons pe_int pa_nil))) (pa_cons (pe_tup (pa_cons pe_str (pa_cons pe_int pa_nil))) (pa_cons (pe_tup (pa_cons pe_str (pa_cons pe_int pa_nil))) pa_nil)))) (pa_cons (pe_tupF (pa_cons (pe_tup (pa_cons pe_str (pa_cons pe_int pa_nil))) (pa_cons (pe_tup (pa_cons pe_str (pa_cons pe_int pa_nil))) pa_nil))) (pa_cons (pe_tupF (pa_cons (pe_tup (pa_cons pe_str (pa_cons pe_int pa_nil))) (pa_cons (pe_tup (pa_cons pe_str (pa_cons pe_int pa_nil))) pa_nil))) pa_nil)))))
  (pss_cons (ps_set (i := 2) sc__law_world.nd rfl (Or.inl rfl) (pe_op op_plus (pv 2) (pe_lst (pa_cons (pe_tupF (pa_cons (pe_tup (pa_cons pe_str (pa_cons pe_int pa_nil))) (pa_cons (pe_tup (pa_cons pe_str (pa_cons pe_int pa_nil))) (pa_cons (pe_tup (pa_cons pe_str (pa_cons pe_int pa_nil))) pa_nil)))) (pa_cons (pe_tupF (pa_cons (pe_tup (pa_cons pe_str (pa_cons pe_int pa_nil))) pa_nil)) (pa_cons (pe_tupF (pa_cons (pe_tup (pa_cons pe_str (pa_cons pe_int pa_nil))) (pa_cons (pe_tup (pa_cons pe_str (pa_cons pe_int pa_nil))) (pa_cons (pe_tup (pa_cons pe_str (pa_cons pe_int pa_nil))) pa_nil)))) pa_nil))))))
  (pss_cons (ps_set (i := 2) sc__law_world.nd rfl (Or.inl rfl) (pe_op op_plus (pv 2) (pe_lst (pa_cons (pe_tupF (pa_cons (pe_tup (pa_cons pe_str (pa_cons pe_int pa_nil))) (pa_cons (pe_tup (pa_cons pe_str (pa_cons pe_int pa_nil))) (pa_cons (pe_tup (pa_cons pe_str (pa_cons pe_int pa_nil))) (pa_cons (pe_tup (pa_cons pe_str (pa_cons pe_int pa_nil))) pa_nil))))) (pa_cons (pe_tupF (pa_cons (pe_tup (pa_cons pe_str (pa_cons pe_int pa_nil))) (pa_cons (pe_tup (pa_cons pe_str (pa_cons pe_int pa_nil))) (pa_cons (pe_tup (pa_cons pe_str (pa_cons pe_int pa_nil))) pa_nil)))) pa_nil)))))
  (pss_cons (ps_par (i := 3) (j := 4) rfl sc__law_world.nd rfl rfl (by decide) rfl rfl (pa_cons (pe_lst pa_nil) (pa_cons (pe_lst pa_nil) pa_nil)) (by rfl))
  (pss_cons (ps_for PassesOwn.never rfl (pi_list (pe_slice sl_list (pe_lst (pa_cons pe_str (pa_cons pe_str (pa_cons pe_str pa_nil)))) po_none (po_some (pe_op op_plus pe_int (C8.pe_c C__law_draw hr (by decide) (by rfl) (pa_cons (pv 0) (pa_cons (pv 1) (pa_cons pe_int pa_nil)))))))) (pg_name (i := 5) sc__law_world.nd rfl (Or.inl rfl))
  (pss_cons (ps_set (i := 6) sc__law_world.nd rfl (Or.inl rfl) (pe_callTy c_tuple (by rfl) T.z_tuple bt_tuple (pa_cons (pe_callB (c_sortedD hr.units) (by rfl) T.z_sorted bt_sorted (pa_cons (lcX [("_law_one", 7)] (by rfl) (by rfl) sc__law_world.nd (blkOk_by (N := N__law_world) (sc := defScope s__law_world) (own := [("_law_one", 7)]) (by decide +kernel)) (pi_list (pv 4)) (fun _ _ _ _ _ => (pg_name (i := 7) sc__law_world.nd rfl (Or.inl rfl))) (fun _ _ _ _ _ => (pts_one (pt_cmpR (op_eqX hr.units) (C8.pe_c C__law_draw hr (by decide) (by rfl) (pa_cons (pv 0) (pa_cons (pv 1) (pa_cons pe_int pa_nil)))) pe_int (nomark _)))) (fun _ _ _ _ _ => (pv 7))) pa_nil)) pa_nil)))
  (pss_cons (ps_set (i := 8) sc__law_world.nd rfl (Or.inl rfl) (pe_ifExp (PW.pt (pw_or (pt_cmpR (op_eqX hr.units) (pv 5) pe_str (nomark _)) (pw_or1 (pt_cmpR (op_eqX hr.units) (C8.pe_c C__law_draw hr (by decide) (by rfl) (pa_cons (pv 0) (pa_cons (pv 1) (pa_cons pe_int pa_nil)))) pe_int (nomark _))))) pe_str pe_str))
  (pss_cons (ps_expr (pe_bm PySem.F.plainAttrs_list PySem.F.slot_list_append PySem.F.type_list_append mt_append (pv 3) (pa_cons (pe_tup (pa_cons (pv 5) (pa_cons (pv 8) (pa_cons (pv 6) pa_nil)))) pa_nil)))
  (pss_one (ps_expr (pe_bm PySem.F.plainAttrs_list PySem.F.slot_list_append PySem.F.type_list_append mt_append (pv 4) (pa_cons (pv 5) pa_nil))))))))
  (pss_one (ps_ret (pe_tup (pa_cons (C8.pe_c C__law_pick hr (by decide) (by rfl) (pa_cons (pv 0) (pa_cons (pv 1) (pa_cons (pv 2) pa_nil)))) (pa_cons (pe_callTy c_tuple (by rfl) T.z_tuple bt_tuple (pa_cons (pv 3) pa_nil)) pa_nil))))))))))
theorem dv__law_traits (T : Tops K mg) :
    RunsTo P w K mg base N__law_traits "_law_traits" s__law_traits 0 (t__law_traits K w) := fun f cdv A outer s H E hr =>
  (pss_one (ps_ret (lcX [("_law_row", 1)] (by rfl) (by rfl) sc__law_traits.nd (blkOk_by (N := N__law_traits) (sc := defScope s__law_traits) (own := [("_law_row", 1)]) (by decide +kernel)) (pi_tup (pe_ix ix_seq (pv 0) pe_int (fun _ _ => rfl))) (fun _ _ _ _ _ => (pg_name (i := 1) sc__law_traits.nd rfl (Or.inl rfl))) (fun _ _ _ _ _ => pts_nil) (fun _ _ _ _ _ => (pe_ix ix_seq (pv 1) pe_int (fun _ _ => rfl))))))
theorem dv__law_body (T : Tops K mg)
    (C__law_draw : C8.Cal P w K mg base 1 "_law_draw" (sp__law_draw K w) [])
    (C__law_pick : C8.Cal P w K mg base 2 "_law_pick" (sp__law_pick K w) []) :
    RunsTo P w K mg base N__law_body "_law_body" s__law_body 2 (t__law_body K w) := fun f cdv A outer s H E hr =>
  (pss_cons (ps_set (i := 6) sc__law_body.nd rfl (Or.inl rfl) (pe_ix ix_seq (lcX [("_law_row", 7)] (by rfl) (by rfl) sc__law_body.nd (blkOk_by (N := N__law_body) (sc := defScope s__law_body) (own := [("_law_row", 7)]) (by decide +kernel)) (pi_tup (pe_ix ix_seq (pv 2) pe_int (fun _ _ => rfl))) (fun _ _ _ _ _ => (pg_name (i := 7) sc__law_body.nd rfl (Or.inl rfl))) (fun _ _ _ _ _ => (pts_one (pt_cmpR (op_eqX hr.units) (pe_ix ix_seq (pv 7) pe_int (fun _ _ => rfl)) (pv 3) (nomark _)))) (fun _ _ _ _ _ => (pe_ix ix_seq (pv 7) pe_int (fun _ _ => rfl)))) pe_int (fun _ _ => rfl)))
  (pss_cons (setLcX (i := 8) [("_law_row", 7)] (by rfl) (by rfl) sc__law_body.nd (by rfl) (by rfl) (sw_true rfl rfl rfl (by decide +kernel)) (blkOk_by (N := N__law_body) (sc := defScope s__law_body) (own := [("_law_row", 7)]) (by decide +kernel)) (pi_tup (pe_ix ix_seq (pv 2) pe_int (fun _ _ => rfl))) (fun _ _ _ _ _ => (pg_name (i := 7) sc__law_body.nd rfl (Or.inl rfl))) (fun _ _ _ _ _ => (pts_one (pt_cmpR (op_eqX hr.units) (pe_ix ix_seq (pv 7) pe_int (fun _ _ => rfl)) pe_str (nomark _)))) (fun _ _ _ _ _ => (pe_ix ix_seq (pv 7) pe_int (fun _ _ => rfl))))
  (pss_cons (ps_set (i := 9) sc__law_body.nd rfl (Or.inl rfl) (pe_tup (pa_cons pe_str (pa_cons (C8.pe_c C__law_draw hr (by decide) (by rfl) (pa_cons (pv 0) (pa_cons (pv 1) (pa_cons pe_int pa_nil)))) pa_nil))))
  (pss_cons (ps_if (pt_cmpR (op_eqX hr.units) (pv 6) pe_str (nomark _)) (pss_cons (ps_set (i := 10) sc__law_body.nd rfl (Or.inl rfl) (C8.pe_c C__law_pick hr (by decide) (by rfl) (pa_cons (pv 0) (pa_cons (pv 1) (pa_cons (pe_lst (pa_cons (pe_tup (pa_cons pe_str pa_nil)) (pa_cons (pe_tup (pa_cons pe_str (pa_cons (pe_tup (pa_cons pe_str pa_nil)) (pa_cons (pe_tup (pa_cons pe_str (pa_cons pe_int pa_nil))) pa_nil)))) (pa_cons (pv 9) pa_nil)))) pa_nil)))))
  (pss_cons (ps_set (i := 11) sc__law_body.nd rfl (Or.inr rfl) (lcX [("_law_row", 7)] (by rfl) (by rfl) sc__law_body.nd (blkOk_by (N := N__law_body) (sc := defScope s__law_body) (own := [("_law_row", 7)]) (by decide +kernel)) (pi_tup (pe_ix ix_seq (pv 2) pe_int (fun _ _ => rfl))) (fun _ _ _ _ _ => (pg_name (i := 7) sc__law_body.nd rfl (Or.inl rfl))) (fun _ _ _ _ _ => (pts_one (pt_cmpR (op_eqX hr.units) (pe_ix ix_seq (pv 7) pe_int (fun _ _ => rfl)) pe_str (nomark _)))) (fun _ _ _ _ _ => (pe_ix ix_seq (pv 7) pe_int (fun _ _ => rfl)))))
  (pss_one (ps_ret (pe_op op_plus (pe_tup (pa_cons pe_str (pa_cons (pv 10) pa_nil))) (pe_callTy c_tuple (by rfl) T.z_tuple bt_tuple (pa_cons (lcX [("_law_k", 12)] (by rfl) (by rfl) sc__law_body.nd (blkOk_by (N := N__law_body) (sc := defScope s__law_body) (own := [("_law_k", 12)]) (by decide +kernel)) (pi_range1 (by rfl) T.z_range (pa_cons (pv 4) pa_nil)) (fun _ _ _ _ _ => (pg_name (i := 12) sc__law_body.nd rfl (Or.inl rfl))) (fun _ _ _ _ _ => pts_nil) (fun _ _ _ _ _ => (pe_tup (pa_cons (C8.pe_c C__law_pick hr (by decide) (by rfl) (pa_cons (pv 0) (pa_cons (pv 1) (pa_cons (pv 11) pa_nil)))) (pa_cons (pe_tup (pa_cons pe_str pa_nil)) pa_nil))))) pa_nil))))))) pss_nil)
  (pss_cons (ps_set (i := 13) sc__law_body.nd rfl (Or.inl rfl) (pe_lst (pa_cons (pe_tup (pa_cons pe_str pa_nil)) (pa_cons (pv 9) (pa_cons (pe_tup (pa_cons pe_str (pa_cons (pe_tup (pa_cons pe_str pa_nil)) (pa_cons (pe_tup (pa_cons pe_str (pa_cons pe_int pa_nil))) pa_nil)))) pa_nil)))))
  (pss_cons (ps_for PassesOwn.never rfl (pi_tup (pv 5)) (pg_tup (by rfl) (pgs_cons (pg_name (i := 14) sc__law_body.nd rfl (Or.inl rfl)) (pgs_cons (pg_name (i := 15) sc__law_body.nd rfl (Or.inl rfl)) pgs_nil)))
  (pss_one (ps_if (pt_cmpR op_in_seq (pv 14) (pv 8) (by rfl)) (pss_cons (ps_set (i := 13) sc__law_body.nd rfl (Or.inl rfl) (pe_op op_plus (pv 13) (pe_lst (pa_cons (pe_tup (pa_cons pe_str (pa_cons (pv 14) (pa_cons (pv 15) pa_nil)))) (pa_cons (pe_tup (pa_cons pe_str (pa_cons (pe_tup (pa_cons pe_str pa_nil)) (pa_cons (pe_tup (pa_cons pe_str (pa_cons (pv 14) (pa_cons (pv 15) pa_nil)))) pa_nil)))) pa_nil)))))
  (pss_one (ps_expr (pe_bm PySem.F.plainAttrs_list PySem.F.slot_list_append PySem.F.type_list_append mt_append (pv 13) (pa_cons (pe_tup (pa_cons pe_str (pa_cons (pe_tup (pa_cons pe_str (pa_cons (pv 14) (pa_cons (pv 15) pa_nil)))) (pa_cons (pe_tup (pa_cons pe_str (pa_cons (pe_tup (pa_cons pe_str (pa_cons pe_int pa_nil))) (pa_cons (pe_tup (pa_cons pe_str (pa_cons (pv 14) (pa_cons (pv 15) pa_nil)))) pa_nil)))) pa_nil)))) pa_nil))))) pss_nil)))
  (pss_cons (ps_if (PW.pt (pw_and (pt_cmpR op_gt (pv 4) pe_int (nomark _)) (pw_and1 (pt_cmpR (op_eqX hr.units) (C8.pe_c C__law_draw hr (by decide) (by rfl) (pa_cons (pv 0) (pa_cons (pv 1) (pa_cons pe_int pa_nil)))) pe_int (nomark _))))) (pss_cons (ps_set (i := 16) sc__law_body.nd rfl (Or.inl rfl) (pe_tup (pa_cons pe_str (pa_cons (C8.pe_c C__law_pick hr (by decide) (by rfl) (pa_cons (pv 0) (pa_cons (pv 1) (pa_cons (pv 8) pa_nil)))) (pa_cons (C8.pe_c C__law_draw hr (by decide) (by rfl) (pa_cons (pv 0) (pa_cons (pv 1) (pa_cons (pv 4) pa_nil)))) pa_nil)))))
  (pss_one (ps_set (i := 13) sc__law_body.nd rfl (Or.inl rfl) (pe_op op_plus (pv 13) (pe_lst (pa_cons (pv 16) (pa_cons (pe_tup (pa_cons pe_str (pa_cons (pe_tup (pa_cons pe_str pa_nil)) (pa_cons (pv 16) pa_nil)))) (pa_cons (pe_tup (pa_cons pe_str (pa_cons (pv 16) (pa_cons (pe_tup (pa_cons pe_str (pa_cons pe_int pa_nil))) pa_nil)))) pa_nil)))))))) pss_nil)
  (pss_one (ps_ret (C8.pe_c C__law_pick hr (by decide) (by rfl) (pa_cons (pv 0) (pa_cons (pv 1) (pa_cons (pv 13) pa_nil)))))))))))))
theorem dv__law_instance (T : Tops K mg)
    (C__law_traits : C8.Cal P w K mg base 1 "_law_traits" (sp__law_traits K w) [])
    (C__law_pick : C8.Cal P w K mg base 2 "_law_pick" (sp__law_pick K w) [])
    (C__law_draw : C8.Cal P w K mg base 1 "_law_draw" (sp__law_draw K w) [])
    (C__law_body : C8.Cal P w K mg base 3 "_law_body" (sp__law_body K w) []) :
    RunsTo P w K mg base N__law_instance "_law_instance" s__law_instance 3 (t__law_instance K w) := fun f cdv A outer s H E hr =>
  (pss_cons (ps_set (i := 3) sc__law_instance.nd rfl (Or.inl rfl) (C8.pe_c C__law_pick hr (by decide) (by rfl) (pa_cons (pv 0) (pa_cons (pv 1) (pa_cons (C8.pe_c C__law_traits hr (by decide) (by rfl) (pa_cons (pv 2) pa_nil)) pa_nil)))))
  (pss_cons (ps_asg (C8.pe_c C__law_pick hr (by decide) (by rfl) (pa_cons (pv 0) (pa_cons (pv 1) (pa_cons (pe_callTy c_list (by rfl) T.z_list bt_list (pa_cons (pe_ix ix_seq (pv 2) pe_int (fun _ _ => rfl)) pa_nil)) pa_nil)))) (pg_tup (by rfl) (pgs_cons (pg_name (i := 4) sc__law_instance.nd rfl (Or.inl rfl)) (pgs_cons (pg_name (i := 5) sc__law_instance.nd rfl (Or.inl rfl)) pgs_nil))))
  (pss_cons (ps_par (i := 6) (j := 7) rfl sc__law_instance.nd rfl rfl (by decide) rfl rfl (pa_cons (pe_lst pa_nil) (pa_cons (pe_lst pa_nil) pa_nil)) (by rfl))
  (pss_cons (ps_for PassesOwn.never rfl (pi_range1 (by rfl) T.z_range (pa_cons (pv 5) pa_nil)) (pg_name (i := 8) sc__law_instance.nd rfl (Or.inl rfl))
  (pss_cons (ps_set (i := 9) sc__law_instance.nd rfl (Or.inl rfl) (C8.pe_c C__law_pick hr (by decide) (by rfl) (pa_cons (pv 0) (pa_cons (pv 1) (pa_cons (lcX [("_law_row", 10)] (by rfl) (by rfl) sc__law_instance.nd (blkOk_by (N := N__law_instance) (sc := defScope s__law_instance) (own := [("_law_row", 10)]) (by decide +kernel)) (pi_tup (pe_ix ix_seq (pv 2) pe_int (fun _ _ => rfl))) (fun _ _ _ _ _ => (pg_name (i := 10) sc__law_instance.nd rfl (Or.inl rfl))) (fun _ _ _ _ _ => pts_nil) (fun _ _ _ _ _ => (pe_ix ix_seq (pv 10) pe_int (fun _ _ => rfl)))) pa_nil)))))
  (pss_cons (ps_expr (pe_bm PySem.F.plainAttrs_list PySem.F.slot_list_append PySem.F.type_list_append mt_append (pv 6) (pa_cons (pe_ifExp (pt_cmpR (op_eqX hr.units) (C8.pe_c C__law_draw hr (by decide) (by rfl) (pa_cons (pv 0) (pa_cons (pv 1) (pa_cons pe_int pa_nil)))) pe_int (nomark _)) (pv 9) pe_non) pa_nil)))
  (pss_one (ps_for PassesOwn.never rfl (pi_list (pe_lst (pa_cons (pv 3) (pa_cons (C8.pe_c C__law_pick hr (by decide) (by rfl) (pa_cons (pv 0) (pa_cons (pv 1) (pa_cons (C8.pe_c C__law_traits hr (by decide) (by rfl) (pa_cons (pv 2) pa_nil)) pa_nil)))) pa_nil)))) (pg_name (i := 11) sc__law_instance.nd rfl (Or.inl rfl))
  (pss_one (ps_if (PW.pt (pw_and (pt_cmpR (op_eqX hr.units) (C8.pe_c C__law_draw hr (by decide) (by rfl) (pa_cons (pv 0) (pa_cons (pv 1) (pa_cons pe_int pa_nil)))) pe_int (nomark _)) (pw_and (pt_cmpR (op_notInD (hu65 hr)) (pe_tup (pa_cons (pv 11) (pa_cons (pv 8) pa_nil))) (pv 7) (by rfl)) (pw_and1 (pt_cmpR (op_ltD hr.units) (pe_callB c_len (by rfl) T.z_len bt_len (pa_cons (pv 7) pa_nil)) pe_int (nomark _)))))) (pss_one (ps_expr (pe_bm PySem.F.plainAttrs_list PySem.F.slot_list_append PySem.F.type_list_append mt_append (pv 7) (pa_cons (pe_tup (pa_cons (pv 11) (pa_cons (pv 8) pa_nil))) pa_nil)))) pss_nil)))))))
  (pss_cons (ps_set (i := 7) sc__law_instance.nd rfl (Or.inl rfl) (pe_callTy c_tuple (by rfl) T.z_tuple bt_tuple (pa_cons (pe_callB (c_sortedD hr.units) (by rfl) T.z_sorted bt_sorted (pa_cons (pv 7) pa_nil)) pa_nil)))
  (pss_one (ps_ret (pe_tup (pa_cons (pv 3) (pa_cons (pv 4) (pa_cons (pe_callTy c_tuple (by rfl) T.z_tuple bt_tuple (pa_cons (pv 6) pa_nil)) (pa_cons (pv 7) (pa_cons (C8.pe_c C__law_body hr (by decide) (by rfl) (pa_cons (pv 0) (pa_cons (pv 1) (pa_cons (pv 2) (pa_cons (pv 3) (pa_cons (pv 5) (pa_cons (pv 7) pa_nil))))))) pa_nil)))))))))))))
theorem dv__law_set (T : Tops K mg)
    (C__law_draw : C8.Cal P w K mg base 1 "_law_draw" (sp__law_draw K w) [])
    (C__law_instance : C8.Cal P w K mg base 4 "_law_instance" (sp__law_instance K w) []) :
    RunsTo P w K mg base N__law_set "_law_set" s__law_set 4 (t__law_set K w) := fun f cdv A outer s H E hr =>
  (pss_one (ps_ret (pe_callTy c_tuple (by rfl) T.z_tuple bt_tuple (pa_cons (lcX [("_law_k", 4)] (by rfl) (by rfl) sc__law_set.nd (blkOk_by (N := N__law_set) (sc := defScope s__law_set) (own := [("_law_k", 4)]) (by decide +kernel)) (pi_range1 (by rfl) T.z_range (pa_cons (C8.pe_c C__law_draw hr (by decide) (by rfl) (pa_cons (pv 0) (pa_cons (pv 1) (pa_cons (pe_op op_plus (pv 3) pe_int) pa_nil)))) pa_nil)) (fun _ _ _ _ _ => (pg_name (i := 4) sc__law_set.nd rfl (Or.inl rfl))) (fun _ _ _ _ _ => pts_nil) (fun _ _ _ _ _ => (C8.pe_c C__law_instance hr (by decide) (by rfl) (pa_cons (pv 0) (pa_cons (pv 1) (pa_cons (pv 2) pa_nil)))))) pa_nil))))
theorem dv__law_sees {n : Nat} (T : Tops K mg)
    (C_self : C8.Cal P w K mg base (0 + n) "_law_sees" (sp__law_sees K w n) []) :
    RunsTo P w K mg base N__law_sees "_law_sees" s__law_sees (0 + n) (t__law_sees K w n) := fun f cdv A outer s H E hr =>
  (pss_cons (ps_set (i := 2) sc__law_sees.nd rfl (Or.inl rfl) (pe_lst (pa_cons (pv 1) pa_nil)))
  (pss_cons (ps_for PassesOwn.never rfl (pi_tup (pe_ix ix_seq (pe_ix ix_seq (pv 0) (pv 1) (fun _ _ => rfl)) pe_int (fun _ _ => rfl))) (pg_name (i := 3) sc__law_sees.nd rfl (Or.inl rfl))
  (pss_one (ps_set (i := 2) sc__law_sees.nd rfl (Or.inl rfl) (pe_op op_plus (pv 2) (C8.pe_c C_self hr (Nat.le_refl _) (by rfl) (pa_cons (pv 0) (pa_cons (pv 3) pa_nil)))))))
  (pss_one (ps_ret (pe_callB (cr_sortedSet (by rfl)) (by rfl) T.z_sorted bt_sorted (pa_cons (pe_callTy (c_set (by rfl)) (by rfl) T.z_set bt_set (pa_cons (pv 2) pa_nil)) pa_nil))))))
theorem dv__law_asked {n : Nat} (T : Tops K mg)
    (C_self : C8.Cal P w K mg base (0 + n) "_law_asked" (sp__law_asked K w n) []) :
    RunsTo P w K mg base N__law_asked "_law_asked" s__law_asked (0 + n) (t__law_asked K w n) := fun f cdv A outer s H E hr =>
  (pss_cons (ps_if (pt_cmpR (op_eqX hr.units) (pe_ix ix_seq (pv 0) pe_int (fun _ _ => rfl)) pe_str (nomark _)) (pss_one (ps_ret (lcX [("_law_pair", 1)] (by rfl) (by rfl) sc__law_asked.nd (blkOk_by (N := N__law_asked) (sc := defScope s__law_asked) (own := [("_law_pair", 1)]) (by decide +kernel)) (pi_tup (pe_slice sl_tup (pv 0) (po_some pe_int) po_none)) (fun _ _ _ _ _ => (pg_name (i := 1) sc__law_asked.nd rfl (Or.inl rfl))) (fun _ _ _ _ _ => pts_nil) (fun _ _ _ _ _ => (pe_ix ix_seq (pv 1) pe_int (fun _ _ => rfl)))))) pss_nil)
  (pss_cons (ps_set (i := 2) sc__law_asked.nd rfl (Or.inl rfl) (pe_ifExp (pt_cmpR (op_eqX hr.units) (pe_ix ix_seq (pv 0) pe_int (fun _ _ => rfl)) pe_str (nomark _)) (pe_lst (pa_cons (pe_ix ix_seq (pv 0) pe_int (fun _ _ => rfl)) pa_nil)) (pe_lst pa_nil)))
  (pss_cons (ps_for PassesOwn.never rfl (pi_tup (pe_ifExp (pt_cmpR op_in_seq (pe_ix ix_seq (pv 0) pe_int (fun _ _ => rfl)) (pe_tup (pa_cons pe_str (pa_cons pe_str pa_nil))) (by rfl)) (pe_slice sl_tup (pv 0) (po_some pe_int) po_none) (pe_tup pa_nil))) (pg_name (i := 3) sc__law_asked.nd rfl (Or.inl rfl))
  (pss_one (ps_set (i := 2) sc__law_asked.nd rfl (Or.inl rfl) (pe_op op_plus (pv 2) (C8.pe_c C_self hr (Nat.le_refl _) (by rfl) (pa_cons (pv 3) pa_nil))))))
  (pss_one (ps_ret (pv 2))))))
theorem dv__law_good (T : Tops K mg)
    (C__law_traits : C8.Cal P w K mg base 1 "_law_traits" (sp__law_traits K w) [])
    (C__law_sees : C8.Cal P w K mg base 9 "_law_sees" (sp__law_sees K w 9) [])
    (C__law_asked : C8.Cal P w K mg base 9 "_law_asked" (sp__law_asked K w 9) []) :
    RunsTo P w K mg base N__law_good "_law_good" s__law_good 9 (t__law_good K w) := fun f cdv A outer s H E hr =>
  (pss_cons (ps_par (i := 2) (j := 3) rfl sc__law_good.nd rfl rfl (by decide) rfl rfl (pa_cons (pe_lst pa_nil) (pa_cons (pe_lst pa_nil) pa_nil)) (by rfl))
  (pss_cons (ps_for PassesOwn.never rfl (pi_range1 (by rfl) T.z_range (pa_cons (pe_callB c_len (by rfl) T.z_len bt_len (pa_cons (pv 1) pa_nil)) pa_nil)) (pg_name (i := 4) sc__law_good.nd rfl (Or.inr rfl))
  (pss_cons (ps_if (pt_cmpR (op_neX hr.units) (lcX [("_law_place", 5)] (by rfl) (by rfl) sc__law_good.nd (blkOk_by (N := N__law_good) (sc := defScope s__law_good) (own := [("_law_place", 5)]) (by decide +kernel)) (pi_tup (pe_ix ix_seq (pe_ix ix_seq (pv 1) (pv 4) (fun _ _ => rfl)) pe_int (fun _ _ => rfl))) (fun _ _ _ _ _ => (pg_name (i := 5) sc__law_good.nd rfl (Or.inl rfl))) (fun _ _ _ _ _ => (pts_one (pt_cmpR op_ge (pv 5) (pv 4) (nomark _)))) (fun _ _ _ _ _ => (pv 5))) (pe_lst pa_nil) (nomark _)) (pss_one (ps_ret pe_bl)) pss_nil)
  (pss_cons (ps_set (i := 2) sc__law_good.nd rfl (Or.inl rfl) (pe_op op_plus (pv 2) (pe_callTy c_list (by rfl) T.z_list bt_list (pa_cons (pe_ix ix_seq (pe_ix ix_seq (pv 1) (pv 4) (fun _ _ => rfl)) pe_int (fun _ _ => rfl)) pa_nil))))
  (pss_one (ps_set (i := 3) sc__law_good.nd rfl (Or.inl rfl) (pe_op op_plus (pv 3) (pe_callTy c_list (by rfl) T.z_list bt_list (pa_cons (pe_ix ix_seq (pe_ix ix_seq (pv 1) (pv 4) (fun _ _ => rfl)) pe_int (fun _ _ => rfl)) pa_nil))))))))
  (pss_cons (ps_if (PW.pt (pw_or (pt_cmpR (op_neX hr.units) (pe_callB (c_sortedD hr.units) (by rfl) T.z_sorted bt_sorted (pa_cons (pv 2) pa_nil)) (lcX [("_law_row", 6)] (by rfl) (by rfl) sc__law_good.nd (blkOk_by (N := N__law_good) (sc := defScope s__law_good) (own := [("_law_row", 6)]) (by decide +kernel)) (pi_tup (pe_ix ix_seq (pv 0) pe_int (fun _ _ => rfl))) (fun _ _ _ _ _ => (pg_name (i := 6) sc__law_good.nd rfl (Or.inl rfl))) (fun _ _ _ _ _ => pts_nil) (fun _ _ _ _ _ => (pe_ix ix_seq (pv 6) pe_int (fun _ _ => rfl)))) (nomark _)) (pw_or1 (pt_cmpR (op_neX hr.units) (pe_callB (c_sortedD hr.units) (by rfl) T.z_sorted bt_sorted (pa_cons (pv 3) pa_nil)) (pe_callB (c_sortedD hr.units) (by rfl) T.z_sorted bt_sorted (pa_cons (C8.pe_c C__law_traits hr (by decide) (by rfl) (pa_cons (pv 0) pa_nil)) pa_nil)) (nomark _))))) (pss_one (ps_ret pe_bl)) pss_nil)
  (pss_cons (ps_for PassesOwn.never rfl (pi_range1 (by rfl) T.z_range (pa_cons (pe_callB c_len (by rfl) T.z_len bt_len (pa_cons (pv 1) pa_nil)) pa_nil)) (pg_name (i := 4) sc__law_good.nd rfl (Or.inr rfl))
  (pss_cons (ps_set (i := 7) sc__law_good.nd rfl (Or.inl rfl) (C8.pe_c C__law_sees hr (by decide) (by rfl) (pa_cons (pv 1) (pa_cons (pv 4) pa_nil))))
  (pss_cons (ps_for PassesOwn.never rfl (pi_tup (pe_ix ix_seq (pe_ix ix_seq (pv 1) (pv 4) (fun _ _ => rfl)) pe_int (fun _ _ => rfl))) (pg_tup (by rfl) (pgs_cons (pg_name (i := 8) sc__law_good.nd rfl (Or.inl rfl)) (pgs_cons (pg_name (i := 9) sc__law_good.nd rfl (Or.inl rfl)) (pgs_cons (pg_name (i := 10) sc__law_good.nd rfl (Or.inl rfl)) (pgs_cons (pg_name (i := 11) sc__law_good.nd rfl (Or.inl rfl)) (pgs_cons (pg_name (i := 12) sc__law_good.nd rfl (Or.inl rfl)) pgs_nil))))))
  (pss_cons (ps_set (i := 13) sc__law_good.nd rfl (Or.inl rfl) (pe_op op_plus (pe_lst (pa_cons (pv 9) pa_nil)) (lcX [("_law_limit", 14)] (by rfl) (by rfl) sc__law_good.nd (blkOk_by (N := N__law_good) (sc := defScope s__law_good) (own := [("_law_limit", 14)]) (by decide +kernel)) (pi_tup (pv 10)) (fun _ _ _ _ _ => (pg_name (i := 14) sc__law_good.nd rfl (Or.inl rfl))) (fun _ _ _ _ _ => (pts_one (pt_cmpR op_notN1 (pv 14) pe_non (nomark _)))) (fun _ _ _ _ _ => (pv 14)))))
  (pss_cons (ps_for PassesOwn.never rfl (pi_list (pv 7)) (pg_name (i := 5) sc__law_good.nd rfl (Or.inr rfl))
  (pss_one (setLcX (i := 13) [("_law_name", 15)] (by rfl) (by rfl) sc__law_good.nd (by rfl) (by rfl) (sw_true rfl rfl rfl (by decide +kernel)) (blkOk_by (N := N__law_good) (sc := defScope s__law_good) (own := [("_law_name", 15)]) (by decide +kernel)) (pi_list (pv 13)) (fun _ _ _ _ _ => (pg_name (i := 15) sc__law_good.nd rfl (Or.inl rfl))) (fun _ _ _ _ _ => (pts_one (pt_cmpR op_notIn_seq (pv 15) (pe_ix ix_seq (pe_ix ix_seq (pv 1) (pv 5) (fun _ _ => rfl)) pe_int (fun _ _ => rfl)) (by rfl)))) (fun _ _ _ _ _ => (pv 15)))))
  (pss_cons (ps_set (i := 16) sc__law_good.nd rfl (Or.inl rfl) (pe_op op_plus (pe_op op_plus (pe_lst (pa_cons (pv 8) pa_nil)) (lcX [("_law_ask", 17)] (by rfl) (by rfl) sc__law_good.nd (blkOk_by (N := N__law_good) (sc := defScope s__law_good) (own := [("_law_ask", 17)]) (by decide +kernel)) (pi_tup (pv 11)) (fun _ _ _ _ _ => (pg_name (i := 17) sc__law_good.nd rfl (Or.inl rfl))) (fun _ _ _ _ _ => pts_nil) (fun _ _ _ _ _ => (pe_ix ix_seq (pv 17) pe_int (fun _ _ => rfl))))) (C8.pe_c C__law_asked hr (by decide) (by rfl) (pa_cons (pv 12) pa_nil))))
  (pss_cons (ps_for PassesOwn.never rfl (pi_list (pv 7)) (pg_name (i := 5) sc__law_good.nd rfl (Or.inr rfl))
  (pss_one (setLcX (i := 16) [("_law_name", 15)] (by rfl) (by rfl) sc__law_good.nd (by rfl) (by rfl) (sw_true rfl rfl rfl (by decide +kernel)) (blkOk_by (N := N__law_good) (sc := defScope s__law_good) (own := [("_law_name", 15)]) (by decide +kernel)) (pi_list (pv 16)) (fun _ _ _ _ _ => (pg_name (i := 15) sc__law_good.nd rfl (Or.inl rfl))) (fun _ _ _ _ _ => (pts_one (pt_cmpR op_notIn_seq (pv 15) (pe_ix ix_seq (pe_ix ix_seq (pv 1) (pv 5) (fun _ _ => rfl)) pe_int (fun _ _ => rfl)) (by rfl)))) (fun _ _ _ _ _ => (pv 15)))))
  (pss_one (ps_if (pt_cmpR (op_neX hr.units) (pe_op op_plus (pv 13) (pv 16)) (pe_lst pa_nil) (nomark _)) (pss_one (ps_ret pe_bl)) pss_nil)))))))
  (pss_one (ps_for PassesOwn.never rfl (pi_tup (pe_ix ix_seq (pv 0) pe_int (fun _ _ => rfl))) (pg_tup (by rfl) (pgs_cons (pg_name (i := 15) sc__law_good.nd rfl (Or.inl rfl)) (pgs_cons (pg_name (i := 18) sc__law_good.nd rfl (Or.inl rfl)) (pgs_cons (pg_name (i := 19) sc__law_good.nd rfl (Or.inl rfl)) pgs_nil))))
  (pss_cons (ps_set (i := 20) sc__law_good.nd rfl (Or.inl rfl) (pe_ifExp (pt_cmpR op_in_seq (pv 15) (pe_ix ix_seq (pe_ix ix_seq (pv 1) (pv 4) (fun _ _ => rfl)) pe_int (fun _ _ => rfl)) (by rfl)) (pe_callTy c_list (by rfl) T.z_list bt_list (pa_cons (pv 19) pa_nil)) (pe_lst pa_nil)))
  (pss_cons (ps_for PassesOwn.never rfl (pi_list (pv 7)) (pg_name (i := 5) sc__law_good.nd rfl (Or.inr rfl))
  (pss_one (setLcX (i := 20) [("_law_one", 21)] (by rfl) (by rfl) sc__law_good.nd (by rfl) (by rfl) (sw_true rfl rfl rfl (by decide +kernel)) (blkOk_by (N := N__law_good) (sc := defScope s__law_good) (own := [("_law_one", 21)]) (by decide +kernel)) (pi_list (pv 20)) (fun _ _ _ _ _ => (pg_name (i := 21) sc__law_good.nd rfl (Or.inl rfl))) (fun _ _ _ _ _ => (pts_one (pt_cmpR op_notIn_seq (pv 21) (pe_ix ix_seq (pe_ix ix_seq (pv 1) (pv 5) (fun _ _ => rfl)) pe_int (fun _ _ => rfl)) (by rfl)))) (fun _ _ _ _ _ => (pv 21)))))
  (pss_one (ps_if (pt_cmpR (op_neX hr.units) (pv 20) (pe_lst pa_nil) (nomark _)) (pss_one (ps_ret pe_bl)) pss_nil)))))))))
  (pss_one (ps_ret pe_bl))))))
theorem dv__law_library (T : Tops K mg)
    (C__law_draw : C8.Cal P w K mg base 1 "_law_draw" (sp__law_draw K w) [])
    (C__law_set : C8.Cal P w K mg base 5 "_law_set" (sp__law_set K w) []) :
    RunsTo P w K mg base N__law_library "_law_library" s__law_library 5 (t__law_library K w) := fun f cdv A outer s H E hr =>
  (pss_cons (ps_asg (pe_tup (pa_cons (pe_op op_plus pe_int (C8.pe_c C__law_draw hr (by decide) (by rfl) (pa_cons (pv 0) (pa_cons (pv 1) (pa_cons pe_int pa_nil))))) (pa_cons (pe_lst pa_nil) pa_nil))) (pg_tup (by rfl) (pgs_cons (pg_name (i := 3) sc__law_library.nd rfl (Or.inr rfl)) (pgs_cons (pg_name (i := 4) sc__law_library.nd rfl (Or.inl rfl)) pgs_nil))))
  (pss_cons (ps_set (i := 5) sc__law_library.nd rfl (Or.inr rfl) (lcX [("_law_k", 6)] (by rfl) (by rfl) sc__law_library.nd (blkOk_by (N := N__law_library) (sc := defScope s__law_library) (own := [("_law_k", 6)]) (by decide +kernel)) (pi_range1 (by rfl) T.z_range (pa_cons (pe_op op_plus (pe_callB c_len (by rfl) T.z_len bt_len (pa_cons (pe_ix ix_seq (pv 2) pe_int (fun _ _ => rfl)) pa_nil)) (pe_callB c_len (by rfl) T.z_len bt_len (pa_cons (pe_ix ix_seq (pv 2) pe_int (fun _ _ => rfl)) pa_nil))) pa_nil)) (fun _ _ _ _ _ => (pg_name (i := 6) sc__law_library.nd rfl (Or.inl rfl))) (fun _ _ _ _ _ => pts_nil) (fun _ _ _ _ _ => (C8.pe_c C__law_draw hr (by decide) (by rfl) (pa_cons (pv 0) (pa_cons (pv 1) (pa_cons (pv 3) pa_nil)))))))
  (pss_cons (ps_for PassesOwn.never rfl (pi_range1 (by rfl) T.z_range (pa_cons (pv 3) pa_nil)) (pg_name (i := 6) sc__law_library.nd rfl (Or.inr rfl))
  (pss_cons (ps_set (i := 7) sc__law_library.nd rfl (Or.inl rfl) (pe_callTy c_tuple (by rfl) T.z_tuple bt_tuple (pa_cons (lcX [("_law_place", 8)] (by rfl) (by rfl) sc__law_library.nd (blkOk_by (N := N__law_library) (sc := defScope s__law_library) (own := [("_law_place", 8)]) (by decide +kernel)) (pi_range1 (by rfl) T.z_range (pa_cons (pv 6) pa_nil)) (fun _ _ _ _ _ => (pg_name (i := 8) sc__law_library.nd rfl (Or.inl rfl))) (fun _ _ _ _ _ => (pts_one (pt_cmpR op_gt (C8.pe_c C__law_draw hr (by decide) (by rfl) (pa_cons (pv 0) (pa_cons (pv 1) (pa_cons pe_int pa_nil)))) pe_int (nomark _)))) (fun _ _ _ _ _ => (pv 8))) pa_nil)))
  (pss_cons (ps_set (i := 9) sc__law_library.nd rfl (Or.inl rfl) (pe_callTy c_tuple (by rfl) T.z_tuple bt_tuple (pa_cons (lcX [("_law_j", 10), ("_law_row", 11)] (by rfl) (by rfl) sc__law_library.nd (blkOk_by (N := N__law_library) (sc := defScope s__law_library) (own := [("_law_j", 10), ("_law_row", 11)]) (by decide +kernel)) (pi_enumT (by rfl) T.z_enumerate (pa_cons (pe_ix ix_seq (pv 2) pe_int (fun _ _ => rfl)) pa_nil)) (fun _ _ _ _ _ => (pg_tup (by rfl) (pgs_cons (pg_name (i := 10) sc__law_library.nd rfl (Or.inl rfl)) (pgs_cons (pg_name (i := 11) sc__law_library.nd rfl (Or.inl rfl)) pgs_nil)))) (fun _ _ _ _ _ => (pts_one (pt_cmpR (op_eqX hr.units) (pe_ix ix_seq (pv 5) (pv 10) (fun _ _ => rfl)) (pv 6) (nomark _)))) (fun _ _ _ _ _ => (pe_ix ix_seq (pv 11) pe_int (fun _ _ => rfl)))) pa_nil)))
  (pss_cons (ps_set (i := 12) sc__law_library.nd rfl (Or.inl rfl) (pe_callTy c_tuple (by rfl) T.z_tuple bt_tuple (pa_cons (pe_callB (c_sortedD hr.units) (by rfl) T.z_sorted bt_sorted (pa_cons (lcX [("_law_j", 10), ("_law_row", 11)] (by rfl) (by rfl) sc__law_library.nd (blkOk_by (N := N__law_library) (sc := defScope s__law_library) (own := [("_law_j", 10), ("_law_row", 11)]) (by decide +kernel)) (pi_enumT (by rfl) T.z_enumerate (pa_cons (pe_ix ix_seq (pv 2) pe_int (fun _ _ => rfl)) pa_nil)) (fun _ _ _ _ _ => (pg_tup (by rfl) (pgs_cons (pg_name (i := 10) sc__law_library.nd rfl (Or.inl rfl)) (pgs_cons (pg_name (i := 11) sc__law_library.nd rfl (Or.inl rfl)) pgs_nil)))) (fun _ _ _ _ _ => (pts_one (pt_cmpR (op_eqX hr.units) (pe_ix ix_seq (pv 5) (pe_op op_plus (pe_callB c_len (by rfl) T.z_len bt_len (pa_cons (pe_ix ix_seq (pv 2) pe_int (fun _ _ => rfl)) pa_nil)) (pv 10)) (fun _ _ => rfl)) (pv 6) (nomark _)))) (fun _ _ _ _ _ => (pe_ix ix_seq (pv 11) pe_int (fun _ _ => rfl)))) pa_nil)) pa_nil)))
  (pss_cons (ps_set (i := 13) sc__law_library.nd rfl (Or.inl rfl) (pe_ifExp (pt_cmpR op_gt (pv 6) pe_int (nomark _)) (C8.pe_c C__law_set hr (by decide) (by rfl) (pa_cons (pv 0) (pa_cons (pv 1) (pa_cons (pv 2) (pa_cons pe_int pa_nil))))) (pe_tup pa_nil)))
  (pss_one (ps_expr (pe_bm PySem.F.plainAttrs_list PySem.F.slot_list_append PySem.F.type_list_append mt_append (pv 4) (pa_cons (pe_tup (pa_cons (pv 7) (pa_cons (pv 9) (pa_cons (pv 12) (pa_cons (pv 13) pa_nil))))) pa_nil)))))))))
  (pss_one (ps_ret (pe_callTy c_tuple (by rfl) T.z_tuple bt_tuple (pa_cons (pv 4) pa_nil)))))))
theorem dv_law (T : Tops K mg)
    (C__law_town : C8.Cal P w K mg base 1 "_law_town" (sp__law_town K w) [])
    (C__law_world : C8.Cal P w K mg base 3 "_law_world" (sp__law_world K w) [])
    (C__law_library : C8.Cal P w K mg base 6 "_law_library" (sp__law_library K w) [])
    (C__law_good : C8.Cal P w K mg base 10 "_law_good" (sp__law_good K w) [])
    (C_is_library : C8.Cal P w K mg base 16 "is_library" (sp_is_library K w) [])
    (C__law_sees : C8.Cal P w K mg base 9 "_law_sees" (sp__law_sees K w 9) [])
    (C_seen_set : C8.Cal P w K mg base 18 "seen_set" (sp_seen_set K w) [])
    (C_keeps_home : C8.Cal P w K mg base 18 "keeps_home" (sp_keeps_home K w) [])
    (C__law_traits : C8.Cal P w K mg base 1 "_law_traits" (sp__law_traits K w) []) :
    RunsTo P w K mg base N_law "law" s_law 18 (t_law K w) := fun f cdv A outer s H E hr =>
  (pss_cons (ps_set (i := 1) sc_law.nd rfl (Or.inl rfl) (C8.pe_c C__law_town hr (by decide) (by rfl) (pa_cons (pv 0) pa_nil)))
  (pss_cons (ps_set (i := 2) sc_law.nd rfl (Or.inr rfl) (C8.pe_c C__law_world hr (by decide) (by rfl) (pa_cons (pv 0) (pa_cons (pv 1) pa_nil))))
  (pss_cons (ps_for PassesOwn.never rfl (pi_range1 (by rfl) T.z_range (pa_cons pe_int pa_nil)) (pg_name (i := 3) sc_law.nd rfl (Or.inl rfl))
  (pss_cons (ps_set (i := 4) sc_law.nd rfl (Or.inr rfl) (C8.pe_c C__law_library hr (by decide) (by rfl) (pa_cons (pv 0) (pa_cons (pv 1) (pa_cons (pv 2) pa_nil)))))
  (pss_cons (ps_set (i := 5) sc_law.nd rfl (Or.inl rfl) (C8.pe_c C__law_good hr (by decide) (by rfl) (pa_cons (pv 2) (pa_cons (pv 4) pa_nil))))
  (pss_cons (ps_if (PW.pt (pw_or (pt_cmpR (op_neX hr.units) (C8.pe_c C_is_library hr (by decide) (by rfl) (pa_cons (pv 2) (pa_cons (pv 4) pa_nil))) (pv 5) (nomark _)) (pw_or1 (pt_val (C8.pe_c C_is_library hr (by decide) (by rfl) (pa_cons (pv 2) (pa_cons (pe_callTy c_list (by rfl) T.z_list bt_list (pa_cons (pv 4) pa_nil)) pa_nil))))))) (pss_one (ps_ret pe_bl)) pss_nil)
  (pss_one (ps_if (pt_val (pv 5)) (pss_one (ps_for PassesOwn.never rfl (pi_range1 (by rfl) T.z_range (pa_cons (pe_callB c_len (by rfl) T.z_len bt_len (pa_cons (pv 4) pa_nil)) pa_nil)) (pg_name (i := 6) sc_law.nd rfl (Or.inr rfl))
  (pss_cons (ps_set (i := 7) sc_law.nd rfl (Or.inl rfl) (pe_tup pa_nil))
  (pss_cons (ps_for PassesOwn.never rfl (pi_list (C8.pe_c C__law_sees hr (by decide) (by rfl) (pa_cons (pv 4) (pa_cons (pv 6) pa_nil)))) (pg_name (i := 8) sc_law.nd rfl (Or.inl rfl))
  (pss_one (ps_set (i := 7) sc_law.nd rfl (Or.inl rfl) (pe_op op_plus (pv 7) (pe_ix ix_seq (pe_ix ix_seq (pv 4) (pv 8) (fun _ _ => rfl)) pe_int (fun _ _ => rfl))))))
  (pss_cons (ps_if (pt_cmpR (op_neX hr.units) (C8.pe_c C_seen_set hr (by decide) (by rfl) (pa_cons (pv 2) (pa_cons (pv 4) (pa_cons (pv 6) pa_nil)))) (pv 7) (nomark _)) (pss_one (ps_ret pe_bl)) pss_nil)
  (pss_cons (setLcX (i := 9) [("_law_one", 10)] (by rfl) (by rfl) sc_law.nd (by rfl) (by rfl) (sw_true rfl rfl rfl (by decide +kernel)) (blkOk_by (N := N_law) (sc := defScope s_law) (own := [("_law_one", 10)]) (by decide +kernel)) (pi_tup (pe_ix ix_seq (pe_ix ix_seq (pv 4) (pv 6) (fun _ _ => rfl)) pe_int (fun _ _ => rfl))) (fun _ _ _ _ _ => (pg_name (i := 10) sc_law.nd rfl (Or.inl rfl))) (fun _ _ _ _ _ => (pts_one (pt_cmpR op_notIn_seq (pe_ix ix_seq (pv 10) pe_int (fun _ _ => rfl)) (pe_ix ix_seq (pe_ix ix_seq (pv 4) (pv 6) (fun _ _ => rfl)) pe_int (fun _ _ => rfl)) (by rfl)))) (fun _ _ _ _ _ => (pv 10)))
  (pss_cons (setLcX (i := 9) [("_law_one", 10)] (by rfl) (by rfl) sc_law.nd (by rfl) (by rfl) (sw_true rfl rfl rfl (by decide +kernel)) (blkOk_by (N := N_law) (sc := defScope s_law) (own := [("_law_one", 10)]) (by decide +kernel)) (pi_list (pv 9)) (fun _ _ _ _ _ => (pg_name (i := 10) sc_law.nd rfl (Or.inl rfl))) (fun _ _ _ _ _ => (pts_one (pt_cmpR op_notIn_seq (pe_ix ix_seq (pv 10) pe_int (fun _ _ => rfl)) (pe_ix ix_seq (pe_ix ix_seq (pv 4) (pv 6) (fun _ _ => rfl)) pe_int (fun _ _ => rfl)) (by rfl)))) (fun _ _ _ _ _ => (pv 10)))
  (pss_one (ps_if (pt_cmpR (op_neX hr.units) (C8.pe_c C_keeps_home hr (by decide) (by rfl) (pa_cons (pv 2) (pa_cons (pv 4) (pa_cons (pv 6) pa_nil)))) (pe_cmpR (op_eqX hr.units) (pv 9) (pe_lst pa_nil) (nomark _)) (nomark _)) (pss_one (ps_ret pe_bl)) pss_nil))))))))) pss_nil))))))
  (pss_cons (ps_set (i := 11) sc_law.nd rfl (Or.inl rfl) (pe_tup (pa_cons (pe_tup pa_nil) (pa_cons (pe_callTy c_tuple (by rfl) T.z_tuple bt_tuple (pa_cons (lcX [("_law_row", 12)] (by rfl) (by rfl) sc_law.nd (blkOk_by (N := N_law) (sc := defScope s_law) (own := [("_law_row", 12)]) (by decide +kernel)) (pi_tup (pe_ix ix_seq (pv 2) pe_int (fun _ _ => rfl))) (fun _ _ _ _ _ => (pg_name (i := 12) sc_law.nd rfl (Or.inl rfl))) (fun _ _ _ _ _ => pts_nil) (fun _ _ _ _ _ => (pe_ix ix_seq (pv 12) pe_int (fun _ _ => rfl)))) pa_nil)) (pa_cons (pe_callTy c_tuple (by rfl) T.z_tuple bt_tuple (pa_cons (pe_callB (c_sortedD hr.units) (by rfl) T.z_sorted bt_sorted (pa_cons (C8.pe_c C__law_traits hr (by decide) (by rfl) (pa_cons (pv 2) pa_nil)) pa_nil)) pa_nil)) (pa_cons (pe_tup pa_nil) pa_nil))))))
  (pss_cons (ps_set (i := 13) sc_law.nd rfl (Or.inl rfl) (pe_lst (pa_cons pe_non (pa_cons pe_int (pa_cons (pe_tup pa_nil) (pa_cons (pe_tup (pa_cons (pe_tup pa_nil) pa_nil)) (pa_cons (pe_tup (pa_cons (pv 11) (pa_cons (pv 11) pa_nil))) (pa_cons (pe_tup (pa_cons (pe_slice sl_tup (pv 11) po_none (po_some pe_int)) pa_nil)) (pa_cons (pe_tup (pa_cons (pe_lst pa_nil) pa_nil)) (pa_cons (pe_tup (pa_cons (pe_op op_plus (pe_tup (pa_cons (pe_tup (pa_cons pe_int pa_nil)) pa_nil)) (pe_slice sl_tup (pv 11) (po_some pe_int) po_none)) pa_nil)) (pa_cons (pe_tup (pa_cons (pe_op op_plus (pe_tup (pa_cons pe_non pa_nil)) (pe_slice sl_tup (pv 11) (po_some pe_int) po_none)) pa_nil)) pa_nil)))))))))))
  (pss_cons (ps_set (i := 13) sc_law.nd rfl (Or.inl rfl) (pe_op op_plus (pv 13) (pe_lst (pa_cons (pe_tup (pa_cons (pe_op op_plus (pe_op op_plus (pe_slice sl_tup (pv 11) po_none (po_some pe_int)) (pe_tup (pa_cons (pe_slice sl_tup (pe_ix ix_seq (pv 11) pe_int (fun _ _ => rfl)) po_none (po_some (pe_un un_neg pe_int))) pa_nil))) (pe_slice sl_tup (pv 11) (po_some pe_int) po_none)) pa_nil)) (pa_cons (pe_tup (pa_cons (pe_op op_plus (pe_slice sl_tup (pv 11) po_none (po_some pe_int)) (pe_tup (pa_cons (pe_tup (pa_cons pe_non pa_nil)) pa_nil))) pa_nil)) (pa_cons (pe_op op_repT (pe_tup (pa_cons (pv 11) pa_nil)) pe_int) pa_nil))))))
  (pss_cons (ps_expr (pe_bm PySem.F.plainAttrs_list PySem.F.slot_list_append PySem.F.type_list_append mt_append (pv 13) (pa_cons (pe_tup (pa_cons (pe_op op_plus (pe_slice sl_tup (pv 11) po_none (po_some pe_int)) (pe_tup (pa_cons pe_str (pa_cons (pe_tup pa_nil) pa_nil)))) pa_nil)) pa_nil)))
  (pss_cons (ps_if (pt_cmpR (op_neX hr.units) (lcX [("_law_bad", 14)] (by rfl) (by rfl) sc_law.nd (blkOk_by (N := N_law) (sc := defScope s_law) (own := [("_law_bad", 14)]) (by decide +kernel)) (pi_list (pv 13)) (fun _ _ _ _ _ => (pg_name (i := 14) sc_law.nd rfl (Or.inl rfl))) (fun _ _ _ _ _ => (pts_one (pt_cmpR op_notBl (C8.pe_c C_is_library hr (by decide) (by rfl) (pa_cons (pv 2) (pa_cons (pv 14) pa_nil))) pe_bl (nomark _)))) (fun _ _ _ _ _ => (pv 14))) (pe_lst pa_nil) (nomark _)) (pss_one (ps_ret pe_bl)) pss_nil)
  (pss_one (ps_ret (pe_and (pe_cmpR op_isBl (C8.pe_c C_is_library hr (by decide) (by rfl) (pa_cons (pv 2) (pa_cons (pe_tup (pa_cons (pv 11) pa_nil)) pa_nil))) pe_bl (nomark _)) (pe_one (pe_cmpR op_isBl (C8.pe_c C_is_library hr (by decide) (by rfl) (pa_cons (pv 2) (pa_cons (pe_tup (pa_cons (pv 11) (pa_cons (pe_tup (pa_cons (pe_tup (pa_cons pe_int pa_nil)) (pa_cons (pe_tup pa_nil) (pa_cons (pe_tup pa_nil) (pa_cons (pe_tup pa_nil) pa_nil))))) pa_nil))) pa_nil))) pe_bl (nomark _))))))))))))))
end
end Lib

/-! the defs' promises kept, one upon the other; the end -/
namespace Lib
open PySem L2 PySem.Spec PyProof.Rows Evl
section
variable {P : Program} {w : World} {K : PySem.W.Frag} {mg : Str → Option Value} {base h : Heap}
theorem len_pure {R : List Dat → Dat → Prop} {n : Nat} (h : ∀ ds r, R ds r → ds.length = n) : ∀ vs H Q E, PureSp K R vs H Q E → vs.length = n := fun vs H Q E q => by
  obtain ⟨ds, r, ra, hr, _⟩ := q
  rw [rpAll_len ra, h ds r hr]
theorem len_imp {R : List Dat → Nat → (Dat → Prop) → Prop} {n : Nat} (h : ∀ ds c p, R ds c p → ds.length = n) : ∀ vs H Q E, ImpSp K R vs H Q E → vs.length = n + 2 := fun vs H Q E q => by
  obtain ⟨a, t, ns, m, vs', ds, c, p, rfl, _, ra, _, hr, _⟩ := q
  rw [List.length_cons, List.length_cons, rpAll_len ra, h ds c p hr]
/-- nothing is promised, nothing is asked -/
theorem cal_none {x : Str} {st : Stmt} {ps : List Str} {k : Nat} {sp : Sp} (D : Df K mg x st ps) (no : ∀ vs H Q E, ¬ sp vs H Q E) : C8.Cal P w K mg base k x sp [] := by
  obtain ⟨f, fd, F, hm, b⟩ := D.ex
  exact ⟨f, fd, ps, [], ⟨fun vs H Q E h => absurd h (no vs H Q E), fun A outer s H args us vs Q E _ _ _ _ h => absurd h (no vs H Q E)⟩, hm, F.kp, b, .nil⟩
theorem df_mk {x : Str} {st : Stmt} {ps : List Str} {f : Addr} {od an : Option Addr} {sl : Array (Option Value)} {oc kV dc pm cd ct : Value} (X : K.In h) (G : h.Ns mainGlobals mg) (a : PySem.W.nsIn K mainGlobals x = some (some (.ref f)))
    (l : K.lookup f = some ⟨oc, od, .func (PySem.W.fnOf x x (defArgs st) (defBody st) (defScope st) .none kV dc pm an cd ct), sl⟩) (c : PySem.W.codeIn K cd x = true) (k : PySem.W.keepIn K (.ref f) = true)
    (hb : ∀ (kV doc pm : Value) (an : Option Addr) (cdv ct : Value) (us : List Value), us.length = ps.length → bindArgs (PySem.W.fnOf x x (defArgs st) (defBody st) (defScope st) .none kV doc pm an cdv ct) ⟨us, []⟩ = pure (ps.zip us)) : Df K mg x st ps := by
  have F := fun_mk (st := st) l c k
  exact ⟨f, _, F, PySem.W.mg_of X G a, F.binds (ps := ps) hb⟩
theorem tops_mk {t1 t2 : Tok} (X : K.In h) (G : h.Ns mainGlobals mg) (z0 : PySem.W.nsIn K mainGlobals "isinstance" = some none) (z1 : PySem.W.nsIn K mainGlobals "int" = some none) (z2 : PySem.W.nsIn K mainGlobals "bool" = some none) (z3 : PySem.W.nsIn K mainGlobals "str" = some none) (z4 : PySem.W.nsIn K mainGlobals "tuple" = some none) (z5 : PySem.W.nsIn K mainGlobals "list" = some none) (z6 : PySem.W.nsIn K mainGlobals "len" = some none) (z7 : PySem.W.nsIn K mainGlobals "all" = some none) (z8 : PySem.W.nsIn K mainGlobals "any" = some none) (z9 : PySem.W.nsIn K mainGlobals "sum" = some none) (z10 : PySem.W.nsIn K mainGlobals "range" = some none) (z11 : PySem.W.nsIn K mainGlobals "dict" = some none) (z12 : PySem.W.nsIn K mainGlobals "enumerate" = some none) (z13 : PySem.W.nsIn K mainGlobals "sorted" = some none) (z14 : PySem.W.nsIn K mainGlobals "set" = some none)
    (sS : PySem.W.nsIn K mainGlobals "SMALL" = some (some (.str "abcdefghijklmnopqrstuvwxyz" t1))) (sG : PySem.W.nsIn K mainGlobals "GREAT" = some (some (.str "ABCDEFGHIJKLMNOPQRSTUVWXYZ" t2))) : Tops K mg :=
  ⟨PySem.W.mg_none_of X G z0, PySem.W.mg_none_of X G z1, PySem.W.mg_none_of X G z2, PySem.W.mg_none_of X G z3, PySem.W.mg_none_of X G z4, PySem.W.mg_none_of X G z5, PySem.W.mg_none_of X G z6, PySem.W.mg_none_of X G z7, PySem.W.mg_none_of X G z8, PySem.W.mg_none_of X G z9, PySem.W.mg_none_of X G z10, PySem.W.mg_none_of X G z11, PySem.W.mg_none_of X G z12, PySem.W.mg_none_of X G z13, PySem.W.mg_none_of X G z14, ⟨_, PySem.W.mg_of X G sS⟩, ⟨_, PySem.W.mg_of X G sG⟩⟩
theorem pos_depth : ∀ r : Rk, ¬ r.depth ≤ 0
  | .num _ => by simp [Rk.depth]
  | .mark => by simp [Rk.depth]
  | .tell _ _ => by simp [Rk.depth]
  | .plus a b => by simp [Rk.depth]
  | .times a b => by simp [Rk.depth]
theorem ca_is_between (T : Tops K mg) (D : Df K mg "is_between" s_is_between ["value", "low", "high"])  : C8.Cal P w K mg base 1 "is_between" (sp_is_between K w) [] :=
  cal_of D sc_is_between (dv_is_between T ) (len_pure fun _ _ h => by rcases h with ⟨_, _, _, rfl, _⟩ <;> rfl) rd_is_between
theorem ca_are_small (T : Tops K mg) (D : Df K mg "are_small" s_are_small ["value", "low", "high"])  : C8.Cal P w K mg base 1 "are_small" (sp_are_small K w) [] :=
  cal_of D sc_are_small (dv_are_small T ) (len_pure fun _ _ h => by rcases h with ⟨_, _, _, rfl, _⟩ <;> rfl) rd_are_small
theorem ca_is_constructor (T : Tops K mg) (D : Df K mg "is_constructor" s_is_constructor ["value"]) (C_are_small : C8.Cal P w K mg base 1 "are_small" (sp_are_small K w) []) (C_is_between : C8.Cal P w K mg base 1 "is_between" (sp_is_between K w) []) : C8.Cal P w K mg base 2 "is_constructor" (sp_is_constructor K w) [] :=
  cal_of D sc_is_constructor (dv_is_constructor T C_are_small C_is_between) (len_pure fun _ _ h => by rcases h with ⟨_, _, rfl, _⟩ <;> rfl) rd_is_constructor
theorem ca_are_traits (T : Tops K mg) (D : Df K mg "are_traits" s_are_traits ["value"]) (C_are_small : C8.Cal P w K mg base 1 "are_small" (sp_are_small K w) []) : C8.Cal P w K mg base 2 "are_traits" (sp_are_traits K w) [] :=
  cal_of D sc_are_traits (dv_are_traits T C_are_small) (len_pure fun _ _ h => by rcases h with ⟨_, _, rfl, _⟩ <;> rfl) rd_are_traits
theorem ca_is_world (T : Tops K mg) (D : Df K mg "is_world" s_is_world ["value"]) (C_is_constructor : C8.Cal P w K mg base 2 "is_constructor" (sp_is_constructor K w) []) (C_are_traits : C8.Cal P w K mg base 2 "are_traits" (sp_are_traits K w) []) : C8.Cal P w K mg base 3 "is_world" (sp_is_world K w) [] :=
  cal_of D sc_is_world (dv_is_world T C_is_constructor C_are_traits) (len_pure fun _ _ h => by rcases h with ⟨_, _, rfl, _⟩ <;> rfl) rd_is_world
theorem ca_check_world (T : Tops K mg) (D : Df K mg "check_world" s_check_world ["value"]) (C_is_world : C8.Cal P w K mg base 3 "is_world" (sp_is_world K w) []) : C8.Cal P w K mg base 4 "check_world" (sp_check_world K w) [] :=
  cal_of D sc_check_world (dv_check_world T C_is_world) (len_pure fun _ _ h => by rcases h with ⟨_, _, rfl, _⟩ <;> rfl) rd_check_world
theorem ca_trait_names (T : Tops K mg) (D : Df K mg "trait_names" s_trait_names ["world"])  : C8.Cal P w K mg base 1 "trait_names" (sp_trait_names K w) [] :=
  cal_of D sc_trait_names (dv_trait_names T ) (len_pure fun _ _ h => by rcases h with ⟨_, _, rfl, _⟩ <;> rfl) rd_trait_names
theorem ca_form_of (T : Tops K mg) (D : Df K mg "form_of" s_form_of ["world", "trait"])  : C8.Cal P w K mg base 1 "form_of" (sp_form_of K w) [] :=
  cal_of D sc_form_of (dv_form_of T ) (len_pure fun _ _ h => by rcases h with ⟨_, _, _, _, _, _, rfl, _⟩ <;> rfl) rd_form_of
theorem ca_reckoned (T : Tops K mg) (D : Df K mg "reckoned" s_reckoned ["value"])  : ∀ n : Nat, C8.Cal P w K mg base (0 + n) "reckoned" (sp_reckoned K w n) []
  | 0 => cal_none D fun vs H Q E h => by
    obtain ⟨_, _, _, ⟨x, h, _⟩, _⟩ := h
    exact pos_depth x h
  | n + 1 => cal_of D sc_reckoned (dv_reckoned T (ca_reckoned T D n)) (len_pure fun _ _ h => by rcases h with ⟨_, _, rfl, _⟩ <;> rfl) (rd_reckoned n)
theorem ca_is_reckoning (T : Tops K mg) (D : Df K mg "is_reckoning" s_is_reckoning ["world", "value", "parts"]) (C_is_between : C8.Cal P w K mg base 1 "is_between" (sp_is_between K w) []) : ∀ n : Nat, C8.Cal P w K mg base (1 + n) "is_reckoning" (sp_is_reckoning K w n) []
  | 0 => cal_none D fun vs H Q E h => by
    obtain ⟨_, _, _, ⟨_, x, _, _, h, _⟩, _⟩ := h
    exact pos_depth x h
  | n + 1 => cal_of D sc_is_reckoning (dv_is_reckoning T C_is_between (ca_is_reckoning T D C_is_between n)) (len_pure fun _ _ h => by rcases h with ⟨_, _, _, _, _, _, rfl, _⟩ <;> rfl) (rd_is_reckoning n)
theorem ca_is_short (T : Tops K mg) (D : Df K mg "is_short" s_is_short ["world", "value", "parts"]) (C_is_reckoning : C8.Cal P w K mg base 10 "is_reckoning" (sp_is_reckoning K w 9) []) (C_reckoned : C8.Cal P w K mg base 9 "reckoned" (sp_reckoned K w 9) []) : C8.Cal P w K mg base 11 "is_short" (sp_is_short K w) [] :=
  cal_of D sc_is_short (dv_is_short T C_is_reckoning C_reckoned) (len_pure fun _ _ h => by rcases h with ⟨_, _, _, _, _, rfl, _⟩ <;> rfl) rd_is_short
theorem ca_is_body (T : Tops K mg) (D : Df K mg "is_body" s_is_body ["world", "trait", "root", "value"]) (C_form_of : C8.Cal P w K mg base 1 "form_of" (sp_form_of K w) []) (C_is_short : C8.Cal P w K mg base 11 "is_short" (sp_is_short K w) []) : C8.Cal P w K mg base 12 "is_body" (sp_is_body K w) [] :=
  cal_of D sc_is_body (dv_is_body T C_form_of C_is_short) (len_pure fun _ _ h => by rcases h with ⟨_, _, _, _, _, _, _, _, _, rfl, _⟩ <;> rfl) rd_is_body
theorem ca_are_asks (T : Tops K mg) (D : Df K mg "are_asks" s_are_asks ["world", "value", "parts"]) (C_is_between : C8.Cal P w K mg base 1 "is_between" (sp_is_between K w) []) (C_trait_names : C8.Cal P w K mg base 1 "trait_names" (sp_trait_names K w) []) : C8.Cal P w K mg base 2 "are_asks" (sp_are_asks K w) [] :=
  cal_of D sc_are_asks (dv_are_asks T C_is_between C_trait_names) (len_pure fun _ _ h => by rcases h with ⟨_, _, _, _, _, _, _, rfl, _⟩ <;> rfl) rd_are_asks
theorem ca_is_known_instance (T : Tops K mg) (D : Df K mg "is_known_instance" s_is_known_instance ["world", "value"]) (C_trait_names : C8.Cal P w K mg base 1 "trait_names" (sp_trait_names K w) []) (C_are_asks : C8.Cal P w K mg base 2 "are_asks" (sp_are_asks K w) []) (C_is_body : C8.Cal P w K mg base 12 "is_body" (sp_is_body K w) []) : C8.Cal P w K mg base 13 "is_known_instance" (sp_is_known_instance K w) [] :=
  cal_of D sc_is_known_instance (dv_is_known_instance T C_trait_names C_are_asks C_is_body) (len_pure fun _ _ h => by rcases h with ⟨_, _, ⟨_, _, rfl, _⟩ | ⟨rfl, _⟩⟩ <;> rfl) rd_is_known_instance
theorem ca_are_instances (T : Tops K mg) (D : Df K mg "are_instances" s_are_instances ["world", "value", "most"]) (C_is_known_instance : C8.Cal P w K mg base 13 "is_known_instance" (sp_is_known_instance K w) []) : C8.Cal P w K mg base 14 "are_instances" (sp_are_instances K w) [] :=
  cal_of D sc_are_instances (dv_are_instances T C_is_known_instance) (len_pure fun _ _ h => by rcases h with ⟨_, _, ⟨_, _, _, rfl, _⟩ | ⟨rfl, _⟩⟩ <;> rfl) rd_are_instances
theorem ca_body_asks (T : Tops K mg) (D : Df K mg "body_asks" s_body_asks ["body"])  : ∀ n : Nat, C8.Cal P w K mg base (0 + n) "body_asks" (sp_body_asks K w n) []
  | 0 => cal_none D fun vs H Q E h => by
    rcases h with ⟨_, _, _, ⟨x, h, _⟩ | ⟨_, _, h, _⟩, _⟩
    · exact pos_depth x h
    · omega
  | n + 1 => cal_of D sc_body_asks (dv_body_asks T (ca_body_asks T D n)) (len_pure fun _ _ h => by rcases h with (⟨_, _, rfl, _⟩ | ⟨_, _, _, _, rfl, _⟩) <;> rfl) (rd_body_asks n)
theorem ca_are_rising (T : Tops K mg) (D : Df K mg "are_rising" s_are_rising ["value", "some"])  : C8.Cal P w K mg base 1 "are_rising" (sp_are_rising K w) [] :=
  cal_of D sc_are_rising (dv_are_rising T ) (len_pure fun _ _ h => by rcases h with (⟨_, _, _, rfl, _⟩ | ⟨_, _, _, _, _, rfl, _⟩) <;> rfl) rd_are_rising
theorem ca_is_module (T : Tops K mg) (D : Df K mg "is_module" s_is_module ["world", "value", "place"]) (C_is_between : C8.Cal P w K mg base 1 "is_between" (sp_is_between K w) []) (C_are_rising : C8.Cal P w K mg base 1 "are_rising" (sp_are_rising K w) []) (C_are_instances : C8.Cal P w K mg base 14 "are_instances" (sp_are_instances K w) []) (C_trait_names : C8.Cal P w K mg base 1 "trait_names" (sp_trait_names K w) []) : C8.Cal P w K mg base 15 "is_module" (sp_is_module K w) [] :=
  cal_of D sc_is_module (dv_is_module T C_is_between C_are_rising C_are_instances C_trait_names) (len_pure fun _ _ h => by rcases h with ⟨_, _, _, _, _, _, _, rfl, _⟩ <;> rfl) rd_is_module
theorem ca_seen_from (T : Tops K mg) (D : Df K mg "seen_from" s_seen_from ["library", "modules"])  : C8.Cal P w K mg base 1 "seen_from" (sp_seen_from K w) [] :=
  cal_of D sc_seen_from (dv_seen_from T ) (len_pure fun _ _ h => by rcases h with ⟨_, _, _, _, _, rfl, _⟩ <;> rfl) rd_seen_from
theorem ca_is_known (T : Tops K mg) (D : Df K mg "is_known" s_is_known ["world", "library", "place"]) (C_seen_from : C8.Cal P w K mg base 1 "seen_from" (sp_seen_from K w) []) (C_body_asks : C8.Cal P w K mg base 9 "body_asks" (sp_body_asks K w 9) []) : C8.Cal P w K mg base 10 "is_known" (sp_is_known K w) [] :=
  cal_of D sc_is_known (dv_is_known T C_seen_from C_body_asks) (len_pure fun _ _ h => by rcases h with ⟨_, _, _, _, _, _, rfl, _⟩ <;> rfl) rd_is_known
theorem ca_is_library (T : Tops K mg) (D : Df K mg "is_library" s_is_library ["world", "value"]) (C_check_world : C8.Cal P w K mg base 4 "check_world" (sp_check_world K w) []) (C_is_module : C8.Cal P w K mg base 15 "is_module" (sp_is_module K w) []) (C_trait_names : C8.Cal P w K mg base 1 "trait_names" (sp_trait_names K w) []) (C_is_known : C8.Cal P w K mg base 10 "is_known" (sp_is_known K w) []) : C8.Cal P w K mg base 16 "is_library" (sp_is_library K w) [] :=
  cal_of D sc_is_library (dv_is_library T C_check_world C_is_module C_trait_names C_is_known) (len_pure fun _ _ h => by rcases h with ⟨_, _, _, _, _, rfl, _⟩ <;> rfl) rd_is_library
theorem ca_check_library (T : Tops K mg) (D : Df K mg "check_library" s_check_library ["world", "library"]) (C_check_world : C8.Cal P w K mg base 4 "check_world" (sp_check_world K w) []) (C_is_library : C8.Cal P w K mg base 16 "is_library" (sp_is_library K w) []) : C8.Cal P w K mg base 17 "check_library" (sp_check_library K w) [] :=
  cal_of D sc_check_library (dv_check_library T C_check_world C_is_library) (len_pure fun _ _ h => by rcases h with ⟨_, _, _, _, _, rfl, _⟩ <;> rfl) rd_check_library
theorem ca_check_module (T : Tops K mg) (D : Df K mg "check_module" s_check_module ["library", "module"]) (C_is_between : C8.Cal P w K mg base 1 "is_between" (sp_is_between K w) []) : C8.Cal P w K mg base 2 "check_module" (sp_check_module K w) [] :=
  cal_of D sc_check_module (dv_check_module T C_is_between) (len_pure fun _ _ h => by rcases h with ⟨_, _, _, rfl, _⟩ <;> rfl) rd_check_module
theorem ca_set_seen (T : Tops K mg) (D : Df K mg "set_seen" s_set_seen ["library", "modules"]) (C_seen_from : C8.Cal P w K mg base 1 "seen_from" (sp_seen_from K w) []) : C8.Cal P w K mg base 2 "set_seen" (sp_set_seen K w) [] :=
  cal_of D sc_set_seen (dv_set_seen T C_seen_from) (len_pure fun _ _ h => by rcases h with ⟨_, _, _, _, _, rfl, _⟩ <;> rfl) rd_set_seen
theorem ca_seen_set (T : Tops K mg) (D : Df K mg "seen_set" s_seen_set ["world", "library", "module"]) (C_check_library : C8.Cal P w K mg base 17 "check_library" (sp_check_library K w) []) (C_check_module : C8.Cal P w K mg base 2 "check_module" (sp_check_module K w) []) (C_set_seen : C8.Cal P w K mg base 2 "set_seen" (sp_set_seen K w) []) : C8.Cal P w K mg base 18 "seen_set" (sp_seen_set K w) [] :=
  cal_of D sc_seen_set (dv_seen_set T C_check_library C_check_module C_set_seen) (len_pure fun _ _ h => by rcases h with ⟨_, _, _, _, _, _, _, rfl, _⟩ <;> rfl) rd_seen_set
theorem ca_keeps_home (T : Tops K mg) (D : Df K mg "keeps_home" s_keeps_home ["world", "library", "module"]) (C_check_library : C8.Cal P w K mg base 17 "check_library" (sp_check_library K w) []) (C_check_module : C8.Cal P w K mg base 2 "check_module" (sp_check_module K w) []) : C8.Cal P w K mg base 18 "keeps_home" (sp_keeps_home K w) [] :=
  cal_of D sc_keeps_home (dv_keeps_home T C_check_library C_check_module) (len_pure fun _ _ h => by rcases h with ⟨_, _, _, _, _, _, _, rfl, _⟩ <;> rfl) rd_keeps_home
theorem ca__law_town (T : Tops K mg) (D : Df K mg "_law_town" s__law_town ["_law_script"])  : C8.Cal P w K mg base 1 "_law_town" (sp__law_town K w) [] :=
  cal_of D sc__law_town (dv__law_town T ) (fun vs H Q E h => by obtain ⟨_, _, rfl, _⟩ := h; rfl) rd__law_town
theorem ca__law_draw (T : Tops K mg) (D : Df K mg "_law_draw" s__law_draw ["_law_script", "_law_town_here", "_law_limit"])  : C8.Cal P w K mg base 1 "_law_draw" (sp__law_draw K w) [] :=
  cal_of D sc__law_draw (dv__law_draw T ) (len_imp fun _ _ _ h => by rcases h with ⟨_, _, _, rfl, _⟩ <;> rfl) rd__law_draw
theorem ca__law_pick (T : Tops K mg) (D : Df K mg "_law_pick" s__law_pick ["_law_script", "_law_town_here", "_law_choices"]) (C__law_draw : C8.Cal P w K mg base 1 "_law_draw" (sp__law_draw K w) []) : C8.Cal P w K mg base 2 "_law_pick" (sp__law_pick K w) [] :=
  cal_of D sc__law_pick (dv__law_pick T C__law_draw) (len_imp fun _ _ _ h => by rcases h with ⟨_, _, _, _, rfl, _⟩ <;> rfl) rd__law_pick
theorem ca__law_world (T : Tops K mg) (D : Df K mg "_law_world" s__law_world ["_law_script", "_law_town_here"]) (C__law_draw : C8.Cal P w K mg base 1 "_law_draw" (sp__law_draw K w) []) (C__law_pick : C8.Cal P w K mg base 2 "_law_pick" (sp__law_pick K w) []) : C8.Cal P w K mg base 3 "_law_world" (sp__law_world K w) [] :=
  cal_of D sc__law_world (dv__law_world T C__law_draw C__law_pick) (len_imp fun _ _ _ h => by rcases h with ⟨rfl, _⟩ <;> rfl) rd__law_world
theorem ca__law_traits (T : Tops K mg) (D : Df K mg "_law_traits" s__law_traits ["_law_world_here"])  : C8.Cal P w K mg base 1 "_law_traits" (sp__law_traits K w) [] :=
  cal_of D sc__law_traits (dv__law_traits T ) (len_pure fun _ _ h => by rcases h with ⟨_, _, rfl, _⟩ <;> rfl) rd__law_traits
theorem ca__law_body (T : Tops K mg) (D : Df K mg "_law_body" s__law_body ["_law_script", "_law_town_here", "_law_world_here", "_law_trait", "_law_parts", "_law_asks"]) (C__law_draw : C8.Cal P w K mg base 1 "_law_draw" (sp__law_draw K w) []) (C__law_pick : C8.Cal P w K mg base 2 "_law_pick" (sp__law_pick K w) []) : C8.Cal P w K mg base 3 "_law_body" (sp__law_body K w) [] :=
  cal_of D sc__law_body (dv__law_body T C__law_draw C__law_pick) (len_imp fun _ _ _ h => by rcases h with ⟨_, _, _, _, _, _, _, _, _, rfl, _⟩ <;> rfl) rd__law_body
theorem ca__law_instance (T : Tops K mg) (D : Df K mg "_law_instance" s__law_instance ["_law_script", "_law_town_here", "_law_world_here"]) (C__law_traits : C8.Cal P w K mg base 1 "_law_traits" (sp__law_traits K w) []) (C__law_pick : C8.Cal P w K mg base 2 "_law_pick" (sp__law_pick K w) []) (C__law_draw : C8.Cal P w K mg base 1 "_law_draw" (sp__law_draw K w) []) (C__law_body : C8.Cal P w K mg base 3 "_law_body" (sp__law_body K w) []) : C8.Cal P w K mg base 4 "_law_instance" (sp__law_instance K w) [] :=
  cal_of D sc__law_instance (dv__law_instance T C__law_traits C__law_pick C__law_draw C__law_body) (len_imp fun _ _ _ h => by rcases h with ⟨_, _, rfl, _⟩ <;> rfl) rd__law_instance
theorem ca__law_set (T : Tops K mg) (D : Df K mg "_law_set" s__law_set ["_law_script", "_law_town_here", "_law_world_here", "_law_most"]) (C__law_draw : C8.Cal P w K mg base 1 "_law_draw" (sp__law_draw K w) []) (C__law_instance : C8.Cal P w K mg base 4 "_law_instance" (sp__law_instance K w) []) : C8.Cal P w K mg base 5 "_law_set" (sp__law_set K w) [] :=
  cal_of D sc__law_set (dv__law_set T C__law_draw C__law_instance) (len_imp fun _ _ _ h => by rcases h with ⟨_, _, rfl, _⟩ <;> rfl) rd__law_set
theorem ca__law_sees (T : Tops K mg) (D : Df K mg "_law_sees" s__law_sees ["_law_library_here", "_law_module"])  : ∀ n : Nat, C8.Cal P w K mg base (0 + n) "_law_sees" (sp__law_sees K w n) []
  | 0 => cal_none D fun vs H Q E h => by
    obtain ⟨_, _, _, ⟨_, _, _, _, _, h, _⟩, _⟩ := h
    omega
  | n + 1 => cal_of D sc__law_sees (dv__law_sees T (ca__law_sees T D n)) (len_pure fun _ _ h => by rcases h with ⟨_, _, _, _, _, _, rfl, _⟩ <;> rfl) (rd__law_sees n)
theorem ca__law_asked (T : Tops K mg) (D : Df K mg "_law_asked" s__law_asked ["_law_body_here"])  : ∀ n : Nat, C8.Cal P w K mg base (0 + n) "_law_asked" (sp__law_asked K w n) []
  | 0 => cal_none D fun vs H Q E h => by
    rcases h with ⟨_, _, _, ⟨x, h, _⟩ | ⟨_, _, h, _⟩, _⟩
    · exact pos_depth x h
    · omega
  | n + 1 => cal_of D sc__law_asked (dv__law_asked T (ca__law_asked T D n)) (len_pure fun _ _ h => by rcases h with (⟨_, _, rfl, _⟩ | ⟨_, _, _, _, rfl, _⟩) <;> rfl) (rd__law_asked n)
theorem ca__law_good (T : Tops K mg) (D : Df K mg "_law_good" s__law_good ["_law_world_here", "_law_library_here"]) (C__law_traits : C8.Cal P w K mg base 1 "_law_traits" (sp__law_traits K w) []) (C__law_sees : C8.Cal P w K mg base 9 "_law_sees" (sp__law_sees K w 9) []) (C__law_asked : C8.Cal P w K mg base 9 "_law_asked" (sp__law_asked K w 9) []) : C8.Cal P w K mg base 10 "_law_good" (sp__law_good K w) [] :=
  cal_of D sc__law_good (dv__law_good T C__law_traits C__law_sees C__law_asked) (len_pure fun _ _ h => by rcases h with ⟨_, _, _, _, rfl, _⟩ <;> rfl) rd__law_good
theorem ca__law_library (T : Tops K mg) (D : Df K mg "_law_library" s__law_library ["_law_script", "_law_town_here", "_law_world_here"]) (C__law_draw : C8.Cal P w K mg base 1 "_law_draw" (sp__law_draw K w) []) (C__law_set : C8.Cal P w K mg base 5 "_law_set" (sp__law_set K w) []) : C8.Cal P w K mg base 6 "_law_library" (sp__law_library K w) [] :=
  cal_of D sc__law_library (dv__law_library T C__law_draw C__law_set) (len_imp fun _ _ _ h => by rcases h with ⟨_, _, rfl, _⟩ <;> rfl) rd__law_library
/-- every def of the text stands -/
structure Defs (K : PySem.W.Frag) (mg : Str → Option Value) : Prop where
  d_is_between : Df K mg "is_between" s_is_between ["value", "low", "high"]
  d_are_small : Df K mg "are_small" s_are_small ["value", "low", "high"]
  d_is_constructor : Df K mg "is_constructor" s_is_constructor ["value"]
  d_are_traits : Df K mg "are_traits" s_are_traits ["value"]
  d_is_world : Df K mg "is_world" s_is_world ["value"]
  d_check_world : Df K mg "check_world" s_check_world ["value"]
  d_trait_names : Df K mg "trait_names" s_trait_names ["world"]
  d_form_of : Df K mg "form_of" s_form_of ["world", "trait"]
  d_reckoned : Df K mg "reckoned" s_reckoned ["value"]
  d_is_reckoning : Df K mg "is_reckoning" s_is_reckoning ["world", "value", "parts"]
  d_is_short : Df K mg "is_short" s_is_short ["world", "value", "parts"]
  d_is_body : Df K mg "is_body" s_is_body ["world", "trait", "root", "value"]
  d_are_asks : Df K mg "are_asks" s_are_asks ["world", "value", "parts"]
  d_is_known_instance : Df K mg "is_known_instance" s_is_known_instance ["world", "value"]
  d_are_instances : Df K mg "are_instances" s_are_instances ["world", "value", "most"]
  d_body_asks : Df K mg "body_asks" s_body_asks ["body"]
  d_are_rising : Df K mg "are_rising" s_are_rising ["value", "some"]
  d_is_module : Df K mg "is_module" s_is_module ["world", "value", "place"]
  d_seen_from : Df K mg "seen_from" s_seen_from ["library", "modules"]
  d_is_known : Df K mg "is_known" s_is_known ["world", "library", "place"]
  d_is_library : Df K mg "is_library" s_is_library ["world", "value"]
  d_check_library : Df K mg "check_library" s_check_library ["world", "library"]
  d_check_module : Df K mg "check_module" s_check_module ["library", "module"]
  d_set_seen : Df K mg "set_seen" s_set_seen ["library", "modules"]
  d_seen_set : Df K mg "seen_set" s_seen_set ["world", "library", "module"]
  d_keeps_home : Df K mg "keeps_home" s_keeps_home ["world", "library", "module"]
  d__law_town : Df K mg "_law_town" s__law_town ["_law_script"]
  d__law_draw : Df K mg "_law_draw" s__law_draw ["_law_script", "_law_town_here", "_law_limit"]
  d__law_pick : Df K mg "_law_pick" s__law_pick ["_law_script", "_law_town_here", "_law_choices"]
  d__law_world : Df K mg "_law_world" s__law_world ["_law_script", "_law_town_here"]
  d__law_traits : Df K mg "_law_traits" s__law_traits ["_law_world_here"]
  d__law_body : Df K mg "_law_body" s__law_body ["_law_script", "_law_town_here", "_law_world_here", "_law_trait", "_law_parts", "_law_asks"]
  d__law_instance : Df K mg "_law_instance" s__law_instance ["_law_script", "_law_town_here", "_law_world_here"]
  d__law_set : Df K mg "_law_set" s__law_set ["_law_script", "_law_town_here", "_law_world_here", "_law_most"]
  d__law_sees : Df K mg "_law_sees" s__law_sees ["_law_library_here", "_law_module"]
  d__law_asked : Df K mg "_law_asked" s__law_asked ["_law_body_here"]
  d__law_good : Df K mg "_law_good" s__law_good ["_law_world_here", "_law_library_here"]
  d__law_library : Df K mg "_law_library" s__law_library ["_law_script", "_law_town_here", "_law_world_here"]
theorem calls_of (T : Tops K mg) (A : Defs K mg) :
    C8.Cal P w K mg base 1 "_law_town" (sp__law_town K w) [] ∧ C8.Cal P w K mg base 3 "_law_world" (sp__law_world K w) [] ∧ C8.Cal P w K mg base 6 "_law_library" (sp__law_library K w) [] ∧ C8.Cal P w K mg base 10 "_law_good" (sp__law_good K w) [] ∧ C8.Cal P w K mg base 16 "is_library" (sp_is_library K w) [] ∧ C8.Cal P w K mg base 9 "_law_sees" (sp__law_sees K w 9) [] ∧ C8.Cal P w K mg base 18 "seen_set" (sp_seen_set K w) [] ∧ C8.Cal P w K mg base 18 "keeps_home" (sp_keeps_home K w) [] ∧ C8.Cal P w K mg base 1 "_law_traits" (sp__law_traits K w) [] := by
  have C__law_town := ca__law_town (P := P) (w := w) (base := base) T A.d__law_town 
  have C__law_draw := ca__law_draw (P := P) (w := w) (base := base) T A.d__law_draw 
  have C__law_pick := ca__law_pick (P := P) (w := w) (base := base) T A.d__law_pick C__law_draw
  have C__law_world := ca__law_world (P := P) (w := w) (base := base) T A.d__law_world C__law_draw C__law_pick
  have C__law_traits := ca__law_traits (P := P) (w := w) (base := base) T A.d__law_traits 
  have C__law_body := ca__law_body (P := P) (w := w) (base := base) T A.d__law_body C__law_draw C__law_pick
  have C__law_instance := ca__law_instance (P := P) (w := w) (base := base) T A.d__law_instance C__law_traits C__law_pick C__law_draw C__law_body
  have C__law_set := ca__law_set (P := P) (w := w) (base := base) T A.d__law_set C__law_draw C__law_instance
  have C__law_library := ca__law_library (P := P) (w := w) (base := base) T A.d__law_library C__law_draw C__law_set
  have C__law_sees := ca__law_sees (P := P) (w := w) (base := base) T A.d__law_sees  9
  have C__law_asked := ca__law_asked (P := P) (w := w) (base := base) T A.d__law_asked  9
  have C__law_good := ca__law_good (P := P) (w := w) (base := base) T A.d__law_good C__law_traits C__law_sees C__law_asked
  have C_are_small := ca_are_small (P := P) (w := w) (base := base) T A.d_are_small 
  have C_is_between := ca_is_between (P := P) (w := w) (base := base) T A.d_is_between 
  have C_is_constructor := ca_is_constructor (P := P) (w := w) (base := base) T A.d_is_constructor C_are_small C_is_between
  have C_are_traits := ca_are_traits (P := P) (w := w) (base := base) T A.d_are_traits C_are_small
  have C_is_world := ca_is_world (P := P) (w := w) (base := base) T A.d_is_world C_is_constructor C_are_traits
  have C_check_world := ca_check_world (P := P) (w := w) (base := base) T A.d_check_world C_is_world
  have C_are_rising := ca_are_rising (P := P) (w := w) (base := base) T A.d_are_rising 
  have C_trait_names := ca_trait_names (P := P) (w := w) (base := base) T A.d_trait_names 
  have C_are_asks := ca_are_asks (P := P) (w := w) (base := base) T A.d_are_asks C_is_between C_trait_names
  have C_form_of := ca_form_of (P := P) (w := w) (base := base) T A.d_form_of 
  have C_is_reckoning := ca_is_reckoning (P := P) (w := w) (base := base) T A.d_is_reckoning C_is_between 9
  have C_reckoned := ca_reckoned (P := P) (w := w) (base := base) T A.d_reckoned  9
  have C_is_short := ca_is_short (P := P) (w := w) (base := base) T A.d_is_short C_is_reckoning C_reckoned
  have C_is_body := ca_is_body (P := P) (w := w) (base := base) T A.d_is_body C_form_of C_is_short
  have C_is_known_instance := ca_is_known_instance (P := P) (w := w) (base := base) T A.d_is_known_instance C_trait_names C_are_asks C_is_body
  have C_are_instances := ca_are_instances (P := P) (w := w) (base := base) T A.d_are_instances C_is_known_instance
  have C_is_module := ca_is_module (P := P) (w := w) (base := base) T A.d_is_module C_is_between C_are_rising C_are_instances C_trait_names
  have C_seen_from := ca_seen_from (P := P) (w := w) (base := base) T A.d_seen_from 
  have C_body_asks := ca_body_asks (P := P) (w := w) (base := base) T A.d_body_asks  9
  have C_is_known := ca_is_known (P := P) (w := w) (base := base) T A.d_is_known C_seen_from C_body_asks
  have C_is_library := ca_is_library (P := P) (w := w) (base := base) T A.d_is_library C_check_world C_is_module C_trait_names C_is_known
  have C_check_library := ca_check_library (P := P) (w := w) (base := base) T A.d_check_library C_check_world C_is_library
  have C_check_module := ca_check_module (P := P) (w := w) (base := base) T A.d_check_module C_is_between
  have C_set_seen := ca_set_seen (P := P) (w := w) (base := base) T A.d_set_seen C_seen_from
  have C_seen_set := ca_seen_set (P := P) (w := w) (base := base) T A.d_seen_set C_check_library C_check_module C_set_seen
  have C_keeps_home := ca_keeps_home (P := P) (w := w) (base := base) T A.d_keeps_home C_check_library C_check_module
  exact ⟨C__law_town, C__law_world, C__law_library, C__law_good, C_is_library, C__law_sees, C_seen_set, C_keeps_home, C__law_traits⟩
theorem all_mk {fa f1 : Addr} {od an : Option Addr} {sl : Array (Option Value)} {oc kV dc pm cd ct : Value} (X : K.In h) (G : h.Ns mainGlobals mg) (hfa : mg "law" = some (.ref fa)) (T : Tops K mg) (A : Defs K mg)
    (a1 : PySem.W.nsIn K mainGlobals "law" = some (some (.ref f1))) (l1 : K.lookup f1 = some ⟨oc, od, .func (PySem.W.fnOf "law" "law" (defArgs s_law) (defBody s_law) (defScope s_law) .none kV dc pm an cd ct), sl⟩) (c1 : PySem.W.codeIn K cd "law" = true) (k1 : PySem.W.keepIn K (.ref f1) = true) :
    ∃ fd : FuncData, (∀ (s : Shared) (v : Value), BindsTo s fd ⟨[v], []⟩ [("_law_script", v)]) ∧ ∀ base : Heap, K.In base → base.Ns mainGlobals mg → FnOk P w K mg base CX0 19 fa fd ["_law_script"] (sp_law K w) := by
  have e := hfa.symm.trans (PySem.W.mg_of X G a1)
  cases e
  have F := fun_mk (st := s_law) l1 c1 k1
  refine ⟨PySem.W.fnOf "law" "law" (defArgs s_law) (defBody s_law) (defScope s_law) .none kV dc pm an cd ct, fun s v => .of_eq rfl, fun base _ _ => ?_⟩
  obtain ⟨C__law_town, C__law_world, C__law_library, C__law_good, C_is_library, C__law_sees, C_seen_set, C_keeps_home, C__law_traits⟩ := calls_of (P := P) (w := w) (base := base) T A
  exact F.ok sc_law (fun vs H Q E h => by obtain ⟨_, _, rfl, _⟩ := h; rfl) fun cdv A outer s H vs Q E hr h => ⟨_, dv_law T C__law_town C__law_world C__law_library C__law_good C_is_library C__law_sees C_seen_set C_keeps_home C__law_traits _ cdv A outer s H E hr, rd_law vs H Q E h⟩
end
theorem walk {l : PySem.W.OpenLaw} {q : Program} {loose : List Str} {XP : (Str → Option Value) → Heap → Prop} {YP : World → Heap → Prop} {d : DefRec} {K : Params → PySem.W.Frag} (hn : l.most = some 63) (hdf : d.params.defaults = [])
    (hY : ∀ (w : World) (h : Heap), YP w h → (K w.params).In h)
    (F : ∀ (w : World) (mg : Str → Option Value) (fa : Addr) (h : Heap), (K w.params).In h → h.Ns mainGlobals mg → mg d.name = some (.ref fa) →
      ∃ fd : FuncData, (∀ (s : Shared) (u : Value), BindsTo s fd ⟨[u], []⟩ [("_law_script", u)]) ∧ ∀ base : Heap, (K w.params).In base → base.Ns mainGlobals mg → FnOk l.prog w (K w.params) mg base CX0 19 fa fd ["_law_script"] (sp_law (K w.params) w)) :
    PySem.W.WalkO q loose XP YP l.row.toRowW d [] (fun f vs => PySem.call f vs) :=
  L2.walk_of (n := 63) (k := 19) (x := "_law_script") (CX := fun _ => CX0) (sp := fun w => sp_law (K w.params) w) hn (by decide) hdf ⟨rfl, by decide, by decide⟩ hY F (fun _ _ a ns hl _ hS => ⟨a, ns, rfl, hS, hl, fun _ => rfl⟩) fun _ _ _ _ _ z => z
end Lib

open PySem PySem.W PyProof.Rows
set_option maxRecDepth 100000 in
set_option maxHeartbeats 0 in
theorem PySem.Challenge.cw_traitsure_k90_whole_libraries_holds : PySem.Challenge.rw_traitsure_k90_whole_libraries.Holds := by
  w_on; o_law; k_head; (case hw => w_witness2)
  k_fill
  refine Lib.walk (l := PySem.Challenge.rw_traitsure_k90_whole_libraries) rfl rfl (fun w h Y => PySem.W.kIn_of Y) ?F
  case F =>
    intro w mg fa h KX G hmg
    refine' Lib.all_mk KX G hmg (Lib.tops_mk KX G ?z0 ?z1 ?z2 ?z3 ?z4 ?z5 ?z6 ?z7 ?z8 ?z9 ?z10 ?z11 ?z12 ?z13 ?z14 ?sS ?sG)
      (Lib.Defs.mk (Lib.df_mk (x := "is_between") (st := Lib.s_is_between) (ps := ["value", "low", "high"]) KX G ?a0 ?l0 ?c0 ?k0 fun _ _ _ _ _ _ us hl => match us, hl with | [_, _, _], _ => rfl)
        (Lib.df_mk (x := "are_small") (st := Lib.s_are_small) (ps := ["value", "low", "high"]) KX G ?a1 ?l1 ?c1 ?k1 fun _ _ _ _ _ _ us hl => match us, hl with | [_, _, _], _ => rfl)
        (Lib.df_mk (x := "is_constructor") (st := Lib.s_is_constructor) (ps := ["value"]) KX G ?a2 ?l2 ?c2 ?k2 fun _ _ _ _ _ _ us hl => match us, hl with | [_], _ => rfl)
        (Lib.df_mk (x := "are_traits") (st := Lib.s_are_traits) (ps := ["value"]) KX G ?a3 ?l3 ?c3 ?k3 fun _ _ _ _ _ _ us hl => match us, hl with | [_], _ => rfl)
        (Lib.df_mk (x := "is_world") (st := Lib.s_is_world) (ps := ["value"]) KX G ?a4 ?l4 ?c4 ?k4 fun _ _ _ _ _ _ us hl => match us, hl with | [_], _ => rfl)
        (Lib.df_mk (x := "check_world") (st := Lib.s_check_world) (ps := ["value"]) KX G ?a5 ?l5 ?c5 ?k5 fun _ _ _ _ _ _ us hl => match us, hl with | [_], _ => rfl)
        (Lib.df_mk (x := "trait_names") (st := Lib.s_trait_names) (ps := ["world"]) KX G ?a6 ?l6 ?c6 ?k6 fun _ _ _ _ _ _ us hl => match us, hl with | [_], _ => rfl)
        (Lib.df_mk (x := "form_of") (st := Lib.s_form_of) (ps := ["world", "trait"]) KX G ?a7 ?l7 ?c7 ?k7 fun _ _ _ _ _ _ us hl => match us, hl with | [_, _], _ => rfl)
        (Lib.df_mk (x := "reckoned") (st := Lib.s_reckoned) (ps := ["value"]) KX G ?a8 ?l8 ?c8 ?k8 fun _ _ _ _ _ _ us hl => match us, hl with | [_], _ => rfl)
        (Lib.df_mk (x := "is_reckoning") (st := Lib.s_is_reckoning) (ps := ["world", "value", "parts"]) KX G ?a9 ?l9 ?c9 ?k9 fun _ _ _ _ _ _ us hl => match us, hl with | [_, _, _], _ => rfl)
        (Lib.df_mk (x := "is_short") (st := Lib.s_is_short) (ps := ["world", "value", "parts"]) KX G ?a10 ?l10 ?c10 ?k10 fun _ _ _ _ _ _ us hl => match us, hl with | [_, _, _], _ => rfl)
        (Lib.df_mk (x := "is_body") (st := Lib.s_is_body) (ps := ["world", "trait", "root", "value"]) KX G ?a11 ?l11 ?c11 ?k11 fun _ _ _ _ _ _ us hl => match us, hl with | [_, _, _, _], _ => rfl)
        (Lib.df_mk (x := "are_asks") (st := Lib.s_are_asks) (ps := ["world", "value", "parts"]) KX G ?a12 ?l12 ?c12 ?k12 fun _ _ _ _ _ _ us hl => match us, hl with | [_, _, _], _ => rfl)
        (Lib.df_mk (x := "is_known_instance") (st := Lib.s_is_known_instance) (ps := ["world", "value"]) KX G ?a13 ?l13 ?c13 ?k13 fun _ _ _ _ _ _ us hl => match us, hl with | [_, _], _ => rfl)
        (Lib.df_mk (x := "are_instances") (st := Lib.s_are_instances) (ps := ["world", "value", "most"]) KX G ?a14 ?l14 ?c14 ?k14 fun _ _ _ _ _ _ us hl => match us, hl with | [_, _, _], _ => rfl)
        (Lib.df_mk (x := "body_asks") (st := Lib.s_body_asks) (ps := ["body"]) KX G ?a15 ?l15 ?c15 ?k15 fun _ _ _ _ _ _ us hl => match us, hl with | [_], _ => rfl)
        (Lib.df_mk (x := "are_rising") (st := Lib.s_are_rising) (ps := ["value", "some"]) KX G ?a16 ?l16 ?c16 ?k16 fun _ _ _ _ _ _ us hl => match us, hl with | [_, _], _ => rfl)
        (Lib.df_mk (x := "is_module") (st := Lib.s_is_module) (ps := ["world", "value", "place"]) KX G ?a17 ?l17 ?c17 ?k17 fun _ _ _ _ _ _ us hl => match us, hl with | [_, _, _], _ => rfl)
        (Lib.df_mk (x := "seen_from") (st := Lib.s_seen_from) (ps := ["library", "modules"]) KX G ?a18 ?l18 ?c18 ?k18 fun _ _ _ _ _ _ us hl => match us, hl with | [_, _], _ => rfl)
        (Lib.df_mk (x := "is_known") (st := Lib.s_is_known) (ps := ["world", "library", "place"]) KX G ?a19 ?l19 ?c19 ?k19 fun _ _ _ _ _ _ us hl => match us, hl with | [_, _, _], _ => rfl)
        (Lib.df_mk (x := "is_library") (st := Lib.s_is_library) (ps := ["world", "value"]) KX G ?a20 ?l20 ?c20 ?k20 fun _ _ _ _ _ _ us hl => match us, hl with | [_, _], _ => rfl)
        (Lib.df_mk (x := "check_library") (st := Lib.s_check_library) (ps := ["world", "library"]) KX G ?a21 ?l21 ?c21 ?k21 fun _ _ _ _ _ _ us hl => match us, hl with | [_, _], _ => rfl)
        (Lib.df_mk (x := "check_module") (st := Lib.s_check_module) (ps := ["library", "module"]) KX G ?a22 ?l22 ?c22 ?k22 fun _ _ _ _ _ _ us hl => match us, hl with | [_, _], _ => rfl)
        (Lib.df_mk (x := "set_seen") (st := Lib.s_set_seen) (ps := ["library", "modules"]) KX G ?a23 ?l23 ?c23 ?k23 fun _ _ _ _ _ _ us hl => match us, hl with | [_, _], _ => rfl)
        (Lib.df_mk (x := "seen_set") (st := Lib.s_seen_set) (ps := ["world", "library", "module"]) KX G ?a24 ?l24 ?c24 ?k24 fun _ _ _ _ _ _ us hl => match us, hl with | [_, _, _], _ => rfl)
        (Lib.df_mk (x := "keeps_home") (st := Lib.s_keeps_home) (ps := ["world", "library", "module"]) KX G ?a25 ?l25 ?c25 ?k25 fun _ _ _ _ _ _ us hl => match us, hl with | [_, _, _], _ => rfl)
        (Lib.df_mk (x := "_law_town") (st := Lib.s__law_town) (ps := ["_law_script"]) KX G ?a26 ?l26 ?c26 ?k26 fun _ _ _ _ _ _ us hl => match us, hl with | [_], _ => rfl)
        (Lib.df_mk (x := "_law_draw") (st := Lib.s__law_draw) (ps := ["_law_script", "_law_town_here", "_law_limit"]) KX G ?a27 ?l27 ?c27 ?k27 fun _ _ _ _ _ _ us hl => match us, hl with | [_, _, _], _ => rfl)
        (Lib.df_mk (x := "_law_pick") (st := Lib.s__law_pick) (ps := ["_law_script", "_law_town_here", "_law_choices"]) KX G ?a28 ?l28 ?c28 ?k28 fun _ _ _ _ _ _ us hl => match us, hl with | [_, _, _], _ => rfl)
        (Lib.df_mk (x := "_law_world") (st := Lib.s__law_world) (ps := ["_law_script", "_law_town_here"]) KX G ?a29 ?l29 ?c29 ?k29 fun _ _ _ _ _ _ us hl => match us, hl with | [_, _], _ => rfl)
        (Lib.df_mk (x := "_law_traits") (st := Lib.s__law_traits) (ps := ["_law_world_here"]) KX G ?a30 ?l30 ?c30 ?k30 fun _ _ _ _ _ _ us hl => match us, hl with | [_], _ => rfl)
        (Lib.df_mk (x := "_law_body") (st := Lib.s__law_body) (ps := ["_law_script", "_law_town_here", "_law_world_here", "_law_trait", "_law_parts", "_law_asks"]) KX G ?a31 ?l31 ?c31 ?k31 fun _ _ _ _ _ _ us hl => match us, hl with | [_, _, _, _, _, _], _ => rfl)
        (Lib.df_mk (x := "_law_instance") (st := Lib.s__law_instance) (ps := ["_law_script", "_law_town_here", "_law_world_here"]) KX G ?a32 ?l32 ?c32 ?k32 fun _ _ _ _ _ _ us hl => match us, hl with | [_, _, _], _ => rfl)
        (Lib.df_mk (x := "_law_set") (st := Lib.s__law_set) (ps := ["_law_script", "_law_town_here", "_law_world_here", "_law_most"]) KX G ?a33 ?l33 ?c33 ?k33 fun _ _ _ _ _ _ us hl => match us, hl with | [_, _, _, _], _ => rfl)
        (Lib.df_mk (x := "_law_sees") (st := Lib.s__law_sees) (ps := ["_law_library_here", "_law_module"]) KX G ?a34 ?l34 ?c34 ?k34 fun _ _ _ _ _ _ us hl => match us, hl with | [_, _], _ => rfl)
        (Lib.df_mk (x := "_law_asked") (st := Lib.s__law_asked) (ps := ["_law_body_here"]) KX G ?a35 ?l35 ?c35 ?k35 fun _ _ _ _ _ _ us hl => match us, hl with | [_], _ => rfl)
        (Lib.df_mk (x := "_law_good") (st := Lib.s__law_good) (ps := ["_law_world_here", "_law_library_here"]) KX G ?a36 ?l36 ?c36 ?k36 fun _ _ _ _ _ _ us hl => match us, hl with | [_, _], _ => rfl)
        (Lib.df_mk (x := "_law_library") (st := Lib.s__law_library) (ps := ["_law_script", "_law_town_here", "_law_world_here"]) KX G ?a37 ?l37 ?c37 ?k37 fun _ _ _ _ _ _ us hl => match us, hl with | [_, _, _], _ => rfl))
      ?a ?l ?c ?k
    (case z0 => k_is)
    (case z1 => k_is)
    (case z2 => k_is)
    (case z3 => k_is)
    (case z4 => k_is)
    (case z5 => k_is)
    (case z6 => k_is)
    (case z7 => k_is)
    (case z8 => k_is)
    (case z9 => k_is)
    (case z10 => k_is)
    (case z11 => k_is)
    (case z12 => k_is)
    (case z13 => k_is)
    (case z14 => k_is)
    (case sS => k_is); (case sG => k_is)
    (case a0 => k_is); (case l0 => k_is); (case c0 => k_is); (case k0 => k_is)
    (case a1 => k_is); (case l1 => k_is); (case c1 => k_is); (case k1 => k_is)
    (case a2 => k_is); (case l2 => k_is); (case c2 => k_is); (case k2 => k_is)
    (case a3 => k_is); (case l3 => k_is); (case c3 => k_is); (case k3 => k_is)
    (case a4 => k_is); (case l4 => k_is); (case c4 => k_is); (case k4 => k_is)
    (case a5 => k_is); (case l5 => k_is); (case c5 => k_is); (case k5 => k_is)
    (case a6 => k_is); (case l6 => k_is); (case c6 => k_is); (case k6 => k_is)
    (case a7 => k_is); (case l7 => k_is); (case c7 => k_is); (case k7 => k_is)
    (case a8 => k_is); (case l8 => k_is); (case c8 => k_is); (case k8 => k_is)
    (case a9 => k_is); (case l9 => k_is); (case c9 => k_is); (case k9 => k_is)
    (case a10 => k_is); (case l10 => k_is); (case c10 => k_is); (case k10 => k_is)
    (case a11 => k_is); (case l11 => k_is); (case c11 => k_is); (case k11 => k_is)
    (case a12 => k_is); (case l12 => k_is); (case c12 => k_is); (case k12 => k_is)
    (case a13 => k_is); (case l13 => k_is); (case c13 => k_is); (case k13 => k_is)
    (case a14 => k_is); (case l14 => k_is); (case c14 => k_is); (case k14 => k_is)
    (case a15 => k_is); (case l15 => k_is); (case c15 => k_is); (case k15 => k_is)
    (case a16 => k_is); (case l16 => k_is); (case c16 => k_is); (case k16 => k_is)
    (case a17 => k_is); (case l17 => k_is); (case c17 => k_is); (case k17 => k_is)
    (case a18 => k_is); (case l18 => k_is); (case c18 => k_is); (case k18 => k_is)
    (case a19 => k_is); (case l19 => k_is); (case c19 => k_is); (case k19 => k_is)
    (case a20 => k_is); (case l20 => k_is); (case c20 => k_is); (case k20 => k_is)
    (case a21 => k_is); (case l21 => k_is); (case c21 => k_is); (case k21 => k_is)
    (case a22 => k_is); (case l22 => k_is); (case c22 => k_is); (case k22 => k_is)
    (case a23 => k_is); (case l23 => k_is); (case c23 => k_is); (case k23 => k_is)
    (case a24 => k_is); (case l24 => k_is); (case c24 => k_is); (case k24 => k_is)
    (case a25 => k_is); (case l25 => k_is); (case c25 => k_is); (case k25 => k_is)
    (case a26 => k_is); (case l26 => k_is); (case c26 => k_is); (case k26 => k_is)
    (case a27 => k_is); (case l27 => k_is); (case c27 => k_is); (case k27 => k_is)
    (case a28 => k_is); (case l28 => k_is); (case c28 => k_is); (case k28 => k_is)
    (case a29 => k_is); (case l29 => k_is); (case c29 => k_is); (case k29 => k_is)
    (case a30 => k_is); (case l30 => k_is); (case c30 => k_is); (case k30 => k_is)
    (case a31 => k_is); (case l31 => k_is); (case c31 => k_is); (case k31 => k_is)
    (case a32 => k_is); (case l32 => k_is); (case c32 => k_is); (case k32 => k_is)
    (case a33 => k_is); (case l33 => k_is); (case c33 => k_is); (case k33 => k_is)
    (case a34 => k_is); (case l34 => k_is); (case c34 => k_is); (case k34 => k_is)
    (case a35 => k_is); (case l35 => k_is); (case c35 => k_is); (case k35 => k_is)
    (case a36 => k_is); (case l36 => k_is); (case c36 => k_is); (case k36 => k_is)
    (case a37 => k_is); (case l37 => k_is); (case c37 => k_is); (case k37 => k_is)
    (case a => k_is); (case l => k_is); (case c => k_is); (case k => k_is)
